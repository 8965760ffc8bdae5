/- The reference's StateOk. -/
import Derived.Test.YthnjambkgldjdaaFate
import Derived.Test.YthnjambkgldjdaaUsers
namespace Go.Proofs.Ythnjambkgldjdaa
set_option linter.unusedVariables false
set_option linter.unusedSimpArgs false
open Go.RowKit
theorem l6In_e (w : World) (n lo hi : Int) {r : Bool} (h : decide (lo ≤ n ∧ n ≤ hi) = r) : Calls Try.prog 45 #[.int .i64 n, .int .i64 lo, .int .i64 hi] w fun e w' => e = .returned (.bool r) ∧ w = w' := h ▸ l6In_c w n lo hi
set_option maxRecDepth 100000 in
set_option maxHeartbeats 6400000 in
theorem sStateOk_c (w : World) (s : St) (c0 : List Value) (h1 : tSt.rd w s c0) : Calls Try.prog 17 #[.agg c0.toArray] w (Ret (.bool (okSt s)) w) := by
  obtain ⟨v1, v2, v3, v4, rfl, h11, h12, h13, h14, h15⟩ := h1
  obtain ⟨A1, c1, rfl⟩ := h11.val
  obtain ⟨A2, c2, rfl⟩ := h12.val
  obtain ⟨A3, c3, rfl⟩ := h13.val
  obtain ⟨A4, c4, rfl⟩ := h14.val
  have m1 := h11.le
  have m2 := h12.le
  have m3 := h13.le
  have m4 := h14.le
  have S := Sep.start w
  clear h15
  cases a1 : decide (0 ≤ s.way ∧ s.way ≤ 4) with
  | false =>
    have r := Lib.hid (show okSt s = false by simp only [okSt, a1, Bool.false_and])
    have W1 := Lib.hid a1
    clear a1
    go_enter Try.func17, Try.ntmps17
    go_wp2_with (first
      | (go_at_call 45; (with_reducible refine (l6In_e _ s.way 0 4 W1.out).mono ?_); rintro e w9 ⟨rfl, rfl⟩)
      | ((with_reducible refine gate_box (t := 26) rfl ?_); refine wpList_sbox S (by rfl) 26 _ rfl 7 _ rfl (by first | rfl | (refine' (S.len ?m9).trans ?_; (case m9 => (repeat (first | with_reducible exact List.mem_cons_self | with_reducible apply List.mem_cons_of_mem)) <;> fail); rfl) | assumption | exact (Go.RowKit.Hid.out (by assumption))) ?_; clear S; intro g9 w9 z9 S) | ((with_reducible refine gate_load (t := 26) rfl ?_); (first | refine wpList_sload S (by rfl) 26 _ rfl rfl (by (repeat (first | with_reducible exact List.mem_cons_self | with_reducible apply List.mem_cons_of_mem)) <;> fail) _ Try.underlying26 rfl ts26 ?_ | refine wpList_spart S (by rfl) 26 _ rfl rfl (by (repeat (first | with_reducible exact List.mem_cons_self | with_reducible apply List.mem_cons_of_mem)) <;> fail) _ Try.underlying26 rfl ts26 (by decide) _ (by (conv => lhs; simp only [List.drop_succ_cons, List.drop_zero, List.take_succ_cons, List.take_zero, List.set_cons_succ, List.set_cons_zero, List.cons_append, List.nil_append, List.append_nil, List.drop_nil, Nat.reduceAdd]); try exact rfl) ?_)) | ((with_reducible refine gate_load (t := 3) rfl ?_); refine wpList_sload1 S (by rfl) 3 _ rfl rfl (by (repeat (first | with_reducible exact List.mem_cons_self | with_reducible apply List.mem_cons_of_mem)) <;> fail) _ Try.underlying3 rfl _ (by (conv => lhs; simp only [List.getElem?_cons_succ, List.getElem?_cons_zero]); try exact rfl) ?_) | ((with_reducible refine gate_load (t := 4) rfl ?_); refine wpList_sload1 S (by rfl) 4 _ rfl rfl (by (repeat (first | with_reducible exact List.mem_cons_self | with_reducible apply List.mem_cons_of_mem)) <;> fail) _ Try.underlying4 rfl _ (by (conv => lhs; simp only [List.getElem?_cons_succ, List.getElem?_cons_zero]); try exact rfl) ?_) | ((with_reducible refine gate_load (t := 24) rfl ?_); refine wpList_sload1 S (by rfl) 24 _ rfl rfl (by (repeat (first | with_reducible exact List.mem_cons_self | with_reducible apply List.mem_cons_of_mem)) <;> fail) _ Try.underlying24 rfl _ (by (conv => lhs; simp only [List.getElem?_cons_succ, List.getElem?_cons_zero]); try exact rfl) ?_) | ((with_reducible refine gate_load (t := 23) rfl ?_); refine wpList_sload1 S (by rfl) 23 _ rfl rfl (by (repeat (first | with_reducible exact List.mem_cons_self | with_reducible apply List.mem_cons_of_mem)) <;> fail) _ Try.underlying23 rfl _ (by (conv => lhs; simp only [List.getElem?_cons_succ, List.getElem?_cons_zero]); try exact rfl) ?_) | ((with_reducible refine gate_load (t := 22) rfl ?_); refine wpList_sload1 S (by rfl) 22 _ rfl rfl (by (repeat (first | with_reducible exact List.mem_cons_self | with_reducible apply List.mem_cons_of_mem)) <;> fail) _ Try.underlying22 rfl _ (by (conv => lhs; simp only [List.getElem?_cons_succ, List.getElem?_cons_zero]); try exact rfl) ?_))
    go_ret
    exact ⟨by rw [r.out]; rfl, S.frame⟩
  | true =>
  cases a2 : decide (1 ≤ s.vsn ∧ s.vsn ≤ 9) with
  | false =>
    have r := Lib.hid (show okSt s = false by simp only [okSt, a2, Bool.false_and, Bool.and_false])
    have W1 := Lib.hid a1
    have W2 := Lib.hid a2
    clear a1 a2
    go_enter Try.func17, Try.ntmps17
    go_wp2_with (first
      | (go_at_call 45; (with_reducible refine (l6In_e _ s.way 0 4 W1.out).mono ?_); rintro e w9 ⟨rfl, rfl⟩)
      | (go_at_call 45; (with_reducible refine (l6In_e _ s.vsn 1 9 W2.out).mono ?_); rintro e w9 ⟨rfl, rfl⟩)
      | ((with_reducible refine gate_box (t := 26) rfl ?_); refine wpList_sbox S (by rfl) 26 _ rfl 7 _ rfl (by first | rfl | (refine' (S.len ?m9).trans ?_; (case m9 => (repeat (first | with_reducible exact List.mem_cons_self | with_reducible apply List.mem_cons_of_mem)) <;> fail); rfl) | assumption | exact (Go.RowKit.Hid.out (by assumption))) ?_; clear S; intro g9 w9 z9 S) | ((with_reducible refine gate_load (t := 26) rfl ?_); (first | refine wpList_sload S (by rfl) 26 _ rfl rfl (by (repeat (first | with_reducible exact List.mem_cons_self | with_reducible apply List.mem_cons_of_mem)) <;> fail) _ Try.underlying26 rfl ts26 ?_ | refine wpList_spart S (by rfl) 26 _ rfl rfl (by (repeat (first | with_reducible exact List.mem_cons_self | with_reducible apply List.mem_cons_of_mem)) <;> fail) _ Try.underlying26 rfl ts26 (by decide) _ (by (conv => lhs; simp only [List.drop_succ_cons, List.drop_zero, List.take_succ_cons, List.take_zero, List.set_cons_succ, List.set_cons_zero, List.cons_append, List.nil_append, List.append_nil, List.drop_nil, Nat.reduceAdd]); try exact rfl) ?_)) | ((with_reducible refine gate_load (t := 3) rfl ?_); refine wpList_sload1 S (by rfl) 3 _ rfl rfl (by (repeat (first | with_reducible exact List.mem_cons_self | with_reducible apply List.mem_cons_of_mem)) <;> fail) _ Try.underlying3 rfl _ (by (conv => lhs; simp only [List.getElem?_cons_succ, List.getElem?_cons_zero]); try exact rfl) ?_) | ((with_reducible refine gate_load (t := 4) rfl ?_); refine wpList_sload1 S (by rfl) 4 _ rfl rfl (by (repeat (first | with_reducible exact List.mem_cons_self | with_reducible apply List.mem_cons_of_mem)) <;> fail) _ Try.underlying4 rfl _ (by (conv => lhs; simp only [List.getElem?_cons_succ, List.getElem?_cons_zero]); try exact rfl) ?_) | ((with_reducible refine gate_load (t := 24) rfl ?_); refine wpList_sload1 S (by rfl) 24 _ rfl rfl (by (repeat (first | with_reducible exact List.mem_cons_self | with_reducible apply List.mem_cons_of_mem)) <;> fail) _ Try.underlying24 rfl _ (by (conv => lhs; simp only [List.getElem?_cons_succ, List.getElem?_cons_zero]); try exact rfl) ?_) | ((with_reducible refine gate_load (t := 23) rfl ?_); refine wpList_sload1 S (by rfl) 23 _ rfl rfl (by (repeat (first | with_reducible exact List.mem_cons_self | with_reducible apply List.mem_cons_of_mem)) <;> fail) _ Try.underlying23 rfl _ (by (conv => lhs; simp only [List.getElem?_cons_succ, List.getElem?_cons_zero]); try exact rfl) ?_) | ((with_reducible refine gate_load (t := 22) rfl ?_); refine wpList_sload1 S (by rfl) 22 _ rfl rfl (by (repeat (first | with_reducible exact List.mem_cons_self | with_reducible apply List.mem_cons_of_mem)) <;> fail) _ Try.underlying22 rfl _ (by (conv => lhs; simp only [List.getElem?_cons_succ, List.getElem?_cons_zero]); try exact rfl) ?_))
    go_ret
    exact ⟨by rw [r.out]; rfl, S.frame⟩
  | true =>
  have R0 := Lib.hid (show okSt s = (wantOk s && sentOk s && gotOk s.got) by simp only [okSt, a1, a2, Bool.true_and])
  have W1 := Lib.hid a1
  have W2 := Lib.hid a2
  clear a1 a2
  by_cases e1 : s.sent.length ≤ 8
  case neg =>
    have r := Lib.hid (show okSt s = false by rw [R0.out]; simp [sentOk, e1])
    have t1 : decide ((8 : Int) < (s.sent.length : Int)) = true := decide_eq_true (by omega)
    clear e1
    go_enter Try.func17, Try.ntmps17
    go_wp2_with (first
      | (go_at_call 45; (with_reducible refine (l6In_e _ s.way 0 4 W1.out).mono ?_); rintro e w9 ⟨rfl, rfl⟩)
      | (go_at_call 45; (with_reducible refine (l6In_e _ s.vsn 1 9 W2.out).mono ?_); rintro e w9 ⟨rfl, rfl⟩)
      | ((with_reducible refine gate_box (t := 26) rfl ?_); refine wpList_sbox S (by rfl) 26 _ rfl 7 _ rfl (by first | rfl | (refine' (S.len ?m9).trans ?_; (case m9 => (repeat (first | with_reducible exact List.mem_cons_self | with_reducible apply List.mem_cons_of_mem)) <;> fail); rfl) | assumption | exact (Go.RowKit.Hid.out (by assumption))) ?_; clear S; intro g9 w9 z9 S) | ((with_reducible refine gate_load (t := 26) rfl ?_); (first | refine wpList_sload S (by rfl) 26 _ rfl rfl (by (repeat (first | with_reducible exact List.mem_cons_self | with_reducible apply List.mem_cons_of_mem)) <;> fail) _ Try.underlying26 rfl ts26 ?_ | refine wpList_spart S (by rfl) 26 _ rfl rfl (by (repeat (first | with_reducible exact List.mem_cons_self | with_reducible apply List.mem_cons_of_mem)) <;> fail) _ Try.underlying26 rfl ts26 (by decide) _ (by (conv => lhs; simp only [List.drop_succ_cons, List.drop_zero, List.take_succ_cons, List.take_zero, List.set_cons_succ, List.set_cons_zero, List.cons_append, List.nil_append, List.append_nil, List.drop_nil, Nat.reduceAdd]); try exact rfl) ?_)) | ((with_reducible refine gate_load (t := 3) rfl ?_); refine wpList_sload1 S (by rfl) 3 _ rfl rfl (by (repeat (first | with_reducible exact List.mem_cons_self | with_reducible apply List.mem_cons_of_mem)) <;> fail) _ Try.underlying3 rfl _ (by (conv => lhs; simp only [List.getElem?_cons_succ, List.getElem?_cons_zero]); try exact rfl) ?_) | ((with_reducible refine gate_load (t := 4) rfl ?_); refine wpList_sload1 S (by rfl) 4 _ rfl rfl (by (repeat (first | with_reducible exact List.mem_cons_self | with_reducible apply List.mem_cons_of_mem)) <;> fail) _ Try.underlying4 rfl _ (by (conv => lhs; simp only [List.getElem?_cons_succ, List.getElem?_cons_zero]); try exact rfl) ?_) | ((with_reducible refine gate_load (t := 24) rfl ?_); refine wpList_sload1 S (by rfl) 24 _ rfl rfl (by (repeat (first | with_reducible exact List.mem_cons_self | with_reducible apply List.mem_cons_of_mem)) <;> fail) _ Try.underlying24 rfl _ (by (conv => lhs; simp only [List.getElem?_cons_succ, List.getElem?_cons_zero]); try exact rfl) ?_) | ((with_reducible refine gate_load (t := 23) rfl ?_); refine wpList_sload1 S (by rfl) 23 _ rfl rfl (by (repeat (first | with_reducible exact List.mem_cons_self | with_reducible apply List.mem_cons_of_mem)) <;> fail) _ Try.underlying23 rfl _ (by (conv => lhs; simp only [List.getElem?_cons_succ, List.getElem?_cons_zero]); try exact rfl) ?_) | ((with_reducible refine gate_load (t := 22) rfl ?_); refine wpList_sload1 S (by rfl) 22 _ rfl rfl (by (repeat (first | with_reducible exact List.mem_cons_self | with_reducible apply List.mem_cons_of_mem)) <;> fail) _ Try.underlying22 rfl _ (by (conv => lhs; simp only [List.getElem?_cons_succ, List.getElem?_cons_zero]); try exact rfl) ?_))
    go_ret
    exact ⟨by rw [r.out]; rfl, S.frame⟩
  have t1 : decide ((8 : Int) < (s.sent.length : Int)) = false := decide_eq_false (by omega)
  by_cases e2 : s.live.length = s.sent.length
  case neg =>
    have r := Lib.hid (show okSt s = false by rw [R0.out]; simp [sentOk, e2])
    have t2 : ((s.live.length : Int) != (s.sent.length : Int)) = true := by simp; omega
    clear e2
    go_enter Try.func17, Try.ntmps17
    go_wp2_with (first
      | (go_at_call 45; (with_reducible refine (l6In_e _ s.way 0 4 W1.out).mono ?_); rintro e w9 ⟨rfl, rfl⟩)
      | (go_at_call 45; (with_reducible refine (l6In_e _ s.vsn 1 9 W2.out).mono ?_); rintro e w9 ⟨rfl, rfl⟩)
      | ((with_reducible refine gate_box (t := 26) rfl ?_); refine wpList_sbox S (by rfl) 26 _ rfl 7 _ rfl (by first | rfl | (refine' (S.len ?m9).trans ?_; (case m9 => (repeat (first | with_reducible exact List.mem_cons_self | with_reducible apply List.mem_cons_of_mem)) <;> fail); rfl) | assumption | exact (Go.RowKit.Hid.out (by assumption))) ?_; clear S; intro g9 w9 z9 S) | ((with_reducible refine gate_load (t := 26) rfl ?_); (first | refine wpList_sload S (by rfl) 26 _ rfl rfl (by (repeat (first | with_reducible exact List.mem_cons_self | with_reducible apply List.mem_cons_of_mem)) <;> fail) _ Try.underlying26 rfl ts26 ?_ | refine wpList_spart S (by rfl) 26 _ rfl rfl (by (repeat (first | with_reducible exact List.mem_cons_self | with_reducible apply List.mem_cons_of_mem)) <;> fail) _ Try.underlying26 rfl ts26 (by decide) _ (by (conv => lhs; simp only [List.drop_succ_cons, List.drop_zero, List.take_succ_cons, List.take_zero, List.set_cons_succ, List.set_cons_zero, List.cons_append, List.nil_append, List.append_nil, List.drop_nil, Nat.reduceAdd]); try exact rfl) ?_)) | ((with_reducible refine gate_load (t := 3) rfl ?_); refine wpList_sload1 S (by rfl) 3 _ rfl rfl (by (repeat (first | with_reducible exact List.mem_cons_self | with_reducible apply List.mem_cons_of_mem)) <;> fail) _ Try.underlying3 rfl _ (by (conv => lhs; simp only [List.getElem?_cons_succ, List.getElem?_cons_zero]); try exact rfl) ?_) | ((with_reducible refine gate_load (t := 4) rfl ?_); refine wpList_sload1 S (by rfl) 4 _ rfl rfl (by (repeat (first | with_reducible exact List.mem_cons_self | with_reducible apply List.mem_cons_of_mem)) <;> fail) _ Try.underlying4 rfl _ (by (conv => lhs; simp only [List.getElem?_cons_succ, List.getElem?_cons_zero]); try exact rfl) ?_) | ((with_reducible refine gate_load (t := 24) rfl ?_); refine wpList_sload1 S (by rfl) 24 _ rfl rfl (by (repeat (first | with_reducible exact List.mem_cons_self | with_reducible apply List.mem_cons_of_mem)) <;> fail) _ Try.underlying24 rfl _ (by (conv => lhs; simp only [List.getElem?_cons_succ, List.getElem?_cons_zero]); try exact rfl) ?_) | ((with_reducible refine gate_load (t := 23) rfl ?_); refine wpList_sload1 S (by rfl) 23 _ rfl rfl (by (repeat (first | with_reducible exact List.mem_cons_self | with_reducible apply List.mem_cons_of_mem)) <;> fail) _ Try.underlying23 rfl _ (by (conv => lhs; simp only [List.getElem?_cons_succ, List.getElem?_cons_zero]); try exact rfl) ?_) | ((with_reducible refine gate_load (t := 22) rfl ?_); refine wpList_sload1 S (by rfl) 22 _ rfl rfl (by (repeat (first | with_reducible exact List.mem_cons_self | with_reducible apply List.mem_cons_of_mem)) <;> fail) _ Try.underlying22 rfl _ (by (conv => lhs; simp only [List.getElem?_cons_succ, List.getElem?_cons_zero]); try exact rfl) ?_))
    go_ret
    exact ⟨by rw [r.out]; rfl, S.frame⟩
  by_cases e3 : s.back.length = s.sent.length
  case neg =>
    have r := Lib.hid (show okSt s = false by rw [R0.out]; simp [sentOk, e3])
    have t3 : ((s.back.length : Int) != (s.sent.length : Int)) = true := by simp; omega
    rw [e2]
    have E2 := Lib.hid e2
    clear e2
    clear e3
    go_enter Try.func17, Try.ntmps17
    go_wp2_with (first
      | (go_at_call 45; (with_reducible refine (l6In_e _ s.way 0 4 W1.out).mono ?_); rintro e w9 ⟨rfl, rfl⟩)
      | (go_at_call 45; (with_reducible refine (l6In_e _ s.vsn 1 9 W2.out).mono ?_); rintro e w9 ⟨rfl, rfl⟩)
      | ((with_reducible refine gate_box (t := 26) rfl ?_); refine wpList_sbox S (by rfl) 26 _ rfl 7 _ rfl (by first | rfl | (refine' (S.len ?m9).trans ?_; (case m9 => (repeat (first | with_reducible exact List.mem_cons_self | with_reducible apply List.mem_cons_of_mem)) <;> fail); rfl) | assumption | exact (Go.RowKit.Hid.out (by assumption))) ?_; clear S; intro g9 w9 z9 S) | ((with_reducible refine gate_load (t := 26) rfl ?_); (first | refine wpList_sload S (by rfl) 26 _ rfl rfl (by (repeat (first | with_reducible exact List.mem_cons_self | with_reducible apply List.mem_cons_of_mem)) <;> fail) _ Try.underlying26 rfl ts26 ?_ | refine wpList_spart S (by rfl) 26 _ rfl rfl (by (repeat (first | with_reducible exact List.mem_cons_self | with_reducible apply List.mem_cons_of_mem)) <;> fail) _ Try.underlying26 rfl ts26 (by decide) _ (by (conv => lhs; simp only [List.drop_succ_cons, List.drop_zero, List.take_succ_cons, List.take_zero, List.set_cons_succ, List.set_cons_zero, List.cons_append, List.nil_append, List.append_nil, List.drop_nil, Nat.reduceAdd]); try exact rfl) ?_)) | ((with_reducible refine gate_load (t := 3) rfl ?_); refine wpList_sload1 S (by rfl) 3 _ rfl rfl (by (repeat (first | with_reducible exact List.mem_cons_self | with_reducible apply List.mem_cons_of_mem)) <;> fail) _ Try.underlying3 rfl _ (by (conv => lhs; simp only [List.getElem?_cons_succ, List.getElem?_cons_zero]); try exact rfl) ?_) | ((with_reducible refine gate_load (t := 4) rfl ?_); refine wpList_sload1 S (by rfl) 4 _ rfl rfl (by (repeat (first | with_reducible exact List.mem_cons_self | with_reducible apply List.mem_cons_of_mem)) <;> fail) _ Try.underlying4 rfl _ (by (conv => lhs; simp only [List.getElem?_cons_succ, List.getElem?_cons_zero]); try exact rfl) ?_) | ((with_reducible refine gate_load (t := 24) rfl ?_); refine wpList_sload1 S (by rfl) 24 _ rfl rfl (by (repeat (first | with_reducible exact List.mem_cons_self | with_reducible apply List.mem_cons_of_mem)) <;> fail) _ Try.underlying24 rfl _ (by (conv => lhs; simp only [List.getElem?_cons_succ, List.getElem?_cons_zero]); try exact rfl) ?_) | ((with_reducible refine gate_load (t := 23) rfl ?_); refine wpList_sload1 S (by rfl) 23 _ rfl rfl (by (repeat (first | with_reducible exact List.mem_cons_self | with_reducible apply List.mem_cons_of_mem)) <;> fail) _ Try.underlying23 rfl _ (by (conv => lhs; simp only [List.getElem?_cons_succ, List.getElem?_cons_zero]); try exact rfl) ?_) | ((with_reducible refine gate_load (t := 22) rfl ?_); refine wpList_sload1 S (by rfl) 22 _ rfl rfl (by (repeat (first | with_reducible exact List.mem_cons_self | with_reducible apply List.mem_cons_of_mem)) <;> fail) _ Try.underlying22 rfl _ (by (conv => lhs; simp only [List.getElem?_cons_succ, List.getElem?_cons_zero]); try exact rfl) ?_))
    go_ret
    exact ⟨by rw [r.out]; rfl, S.frame⟩
  by_cases e4 : s.got.length = 8
  case neg =>
    have r := Lib.hid (show okSt s = false by rw [R0.out]; simp [gotOk, e4])
    have t4 : ((s.got.length : Int) != 8) = true := by simp; omega
    rw [e2, e3]
    have E2 := Lib.hid e2
    have E3 := Lib.hid e3
    clear e2 e3
    clear e4
    go_enter Try.func17, Try.ntmps17
    go_wp2_with (first
      | (go_at_call 45; (with_reducible refine (l6In_e _ s.way 0 4 W1.out).mono ?_); rintro e w9 ⟨rfl, rfl⟩)
      | (go_at_call 45; (with_reducible refine (l6In_e _ s.vsn 1 9 W2.out).mono ?_); rintro e w9 ⟨rfl, rfl⟩)
      | ((with_reducible refine gate_box (t := 26) rfl ?_); refine wpList_sbox S (by rfl) 26 _ rfl 7 _ rfl (by first | rfl | (refine' (S.len ?m9).trans ?_; (case m9 => (repeat (first | with_reducible exact List.mem_cons_self | with_reducible apply List.mem_cons_of_mem)) <;> fail); rfl) | assumption | exact (Go.RowKit.Hid.out (by assumption))) ?_; clear S; intro g9 w9 z9 S) | ((with_reducible refine gate_load (t := 26) rfl ?_); (first | refine wpList_sload S (by rfl) 26 _ rfl rfl (by (repeat (first | with_reducible exact List.mem_cons_self | with_reducible apply List.mem_cons_of_mem)) <;> fail) _ Try.underlying26 rfl ts26 ?_ | refine wpList_spart S (by rfl) 26 _ rfl rfl (by (repeat (first | with_reducible exact List.mem_cons_self | with_reducible apply List.mem_cons_of_mem)) <;> fail) _ Try.underlying26 rfl ts26 (by decide) _ (by (conv => lhs; simp only [List.drop_succ_cons, List.drop_zero, List.take_succ_cons, List.take_zero, List.set_cons_succ, List.set_cons_zero, List.cons_append, List.nil_append, List.append_nil, List.drop_nil, Nat.reduceAdd]); try exact rfl) ?_)) | ((with_reducible refine gate_load (t := 3) rfl ?_); refine wpList_sload1 S (by rfl) 3 _ rfl rfl (by (repeat (first | with_reducible exact List.mem_cons_self | with_reducible apply List.mem_cons_of_mem)) <;> fail) _ Try.underlying3 rfl _ (by (conv => lhs; simp only [List.getElem?_cons_succ, List.getElem?_cons_zero]); try exact rfl) ?_) | ((with_reducible refine gate_load (t := 4) rfl ?_); refine wpList_sload1 S (by rfl) 4 _ rfl rfl (by (repeat (first | with_reducible exact List.mem_cons_self | with_reducible apply List.mem_cons_of_mem)) <;> fail) _ Try.underlying4 rfl _ (by (conv => lhs; simp only [List.getElem?_cons_succ, List.getElem?_cons_zero]); try exact rfl) ?_) | ((with_reducible refine gate_load (t := 24) rfl ?_); refine wpList_sload1 S (by rfl) 24 _ rfl rfl (by (repeat (first | with_reducible exact List.mem_cons_self | with_reducible apply List.mem_cons_of_mem)) <;> fail) _ Try.underlying24 rfl _ (by (conv => lhs; simp only [List.getElem?_cons_succ, List.getElem?_cons_zero]); try exact rfl) ?_) | ((with_reducible refine gate_load (t := 23) rfl ?_); refine wpList_sload1 S (by rfl) 23 _ rfl rfl (by (repeat (first | with_reducible exact List.mem_cons_self | with_reducible apply List.mem_cons_of_mem)) <;> fail) _ Try.underlying23 rfl _ (by (conv => lhs; simp only [List.getElem?_cons_succ, List.getElem?_cons_zero]); try exact rfl) ?_) | ((with_reducible refine gate_load (t := 22) rfl ?_); refine wpList_sload1 S (by rfl) 22 _ rfl rfl (by (repeat (first | with_reducible exact List.mem_cons_self | with_reducible apply List.mem_cons_of_mem)) <;> fail) _ Try.underlying22 rfl _ (by (conv => lhs; simp only [List.getElem?_cons_succ, List.getElem?_cons_zero]); try exact rfl) ?_))
    go_ret
    exact ⟨by rw [r.out]; rfl, S.frame⟩
  obtain ⟨n, hn⟩ : ∃ n, s.sent.length = n := ⟨_, rfl⟩
  rw [hn] at e1 e2 e3 t1 m1 ⊢
  rw [e2, e3, e4]
  have E1 := Lib.hid hn
  have E2 := Lib.hid e2
  have E3 := Lib.hid e3
  have E4 := Lib.hid e4
  have SO := Lib.hid (show sentOk s = (List.range n).all (pksOk s) by rw [← hn]; simp only [sentOk, hn, e2, e3, decide_eq_true e1, beq_self_eq_true, Bool.true_and])
  have GO := Lib.hid (show gotOk s.got = s.got.all rng2 by simp only [gotOk, e4, beq_self_eq_true, Bool.true_and])
  clear hn e2 e3 e4 m1 m2 m3 m4
  go_enter Try.func17, Try.ntmps17
  go_wp2_with (first
      | ((with_reducible refine gate_dst (N := 1) rfl ?_); refine wpList_sbox S (by rfl) 26 _ rfl 7 _ rfl (by first | rfl | (refine' (S.len ?m9).trans ?_; (case m9 => (repeat (first | with_reducible exact List.mem_cons_self | with_reducible apply List.mem_cons_of_mem)) <;> fail); rfl) | assumption | exact (Go.RowKit.Hid.out (by assumption))) ?_; clear S; intro gS w9 z9 S)
      | (go_at_call 45; (with_reducible refine (l6In_e _ s.way 0 4 W1.out).mono ?_); rintro e w9 ⟨rfl, rfl⟩)
      | (go_at_call 45; (with_reducible refine (l6In_e _ s.vsn 1 9 W2.out).mono ?_); rintro e w9 ⟨rfl, rfl⟩)
      | ((with_reducible refine gate_box (t := 26) rfl ?_); refine wpList_sbox S (by rfl) 26 _ rfl 7 _ rfl (by first | rfl | (refine' (S.len ?m9).trans ?_; (case m9 => (repeat (first | with_reducible exact List.mem_cons_self | with_reducible apply List.mem_cons_of_mem)) <;> fail); rfl) | assumption | exact (Go.RowKit.Hid.out (by assumption))) ?_; clear S; intro g9 w9 z9 S) | ((with_reducible refine gate_load (t := 26) rfl ?_); (first | refine wpList_sload S (by rfl) 26 _ rfl rfl (by (repeat (first | with_reducible exact List.mem_cons_self | with_reducible apply List.mem_cons_of_mem)) <;> fail) _ Try.underlying26 rfl ts26 ?_ | refine wpList_spart S (by rfl) 26 _ rfl rfl (by (repeat (first | with_reducible exact List.mem_cons_self | with_reducible apply List.mem_cons_of_mem)) <;> fail) _ Try.underlying26 rfl ts26 (by decide) _ (by (conv => lhs; simp only [List.drop_succ_cons, List.drop_zero, List.take_succ_cons, List.take_zero, List.set_cons_succ, List.set_cons_zero, List.cons_append, List.nil_append, List.append_nil, List.drop_nil, Nat.reduceAdd]); try exact rfl) ?_)) | ((with_reducible refine gate_load (t := 3) rfl ?_); refine wpList_sload1 S (by rfl) 3 _ rfl rfl (by (repeat (first | with_reducible exact List.mem_cons_self | with_reducible apply List.mem_cons_of_mem)) <;> fail) _ Try.underlying3 rfl _ (by (conv => lhs; simp only [List.getElem?_cons_succ, List.getElem?_cons_zero]); try exact rfl) ?_) | ((with_reducible refine gate_load (t := 4) rfl ?_); refine wpList_sload1 S (by rfl) 4 _ rfl rfl (by (repeat (first | with_reducible exact List.mem_cons_self | with_reducible apply List.mem_cons_of_mem)) <;> fail) _ Try.underlying4 rfl _ (by (conv => lhs; simp only [List.getElem?_cons_succ, List.getElem?_cons_zero]); try exact rfl) ?_) | ((with_reducible refine gate_load (t := 24) rfl ?_); refine wpList_sload1 S (by rfl) 24 _ rfl rfl (by (repeat (first | with_reducible exact List.mem_cons_self | with_reducible apply List.mem_cons_of_mem)) <;> fail) _ Try.underlying24 rfl _ (by (conv => lhs; simp only [List.getElem?_cons_succ, List.getElem?_cons_zero]); try exact rfl) ?_) | ((with_reducible refine gate_load (t := 23) rfl ?_); refine wpList_sload1 S (by rfl) 23 _ rfl rfl (by (repeat (first | with_reducible exact List.mem_cons_self | with_reducible apply List.mem_cons_of_mem)) <;> fail) _ Try.underlying23 rfl _ (by (conv => lhs; simp only [List.getElem?_cons_succ, List.getElem?_cons_zero]); try exact rfl) ?_) | ((with_reducible refine gate_load (t := 22) rfl ?_); refine wpList_sload1 S (by rfl) 22 _ rfl rfl (by (repeat (first | with_reducible exact List.mem_cons_self | with_reducible apply List.mem_cons_of_mem)) <;> fail) _ Try.underlying22 rfl _ (by (conv => lhs; simp only [List.getElem?_cons_succ, List.getElem?_cons_zero]); try exact rfl) ?_))
  go_loopw [4] (fun i wr => ∃ k : Nat, k ≤ n ∧ i = .int .i64 k ∧ (List.range k).all (pksOk s) = true ∧ Sep [] w [aBox gS 26 7 [.int .i64 s.way, .int .i64 s.vsn, .int .i64 s.want, .slice A1 n c1, .slice A2 n c2, .slice A3 n c3, .slice A4 8 c4]] wr) (fun i _ => n - (intOf i).toNat)
  case atStart => exact ⟨0, Nat.zero_le _, rfl, rfl, S⟩
  case round =>
    clear S
    obtain ⟨k, hk, rfl, hall, S⟩ := hrel
    have HA := Lib.hid hall
    clear hall
    by_cases hlt : k < n
    · obtain ⟨ad1, rfl, g1⟩ := pkAt_of_row h11 k (by rw [E1.out]; exact hlt)
      obtain ⟨ad2, rfl, g2⟩ := row_bool_at h12 k (by rw [E2.out]; exact hlt)
      obtain ⟨ad3, rfl, g3⟩ := row_bool_at h13 k (by rw [E3.out]; exact hlt)
      have hat := pksOk_at (s := s) (k := k) (by rw [E1.out]; exact hlt) (by rw [E2.out]; exact hlt) (by rw [E3.out]; exact hlt)
      have hin : k < s.sent.length := by rw [E1.out]; exact hlt
      generalize s.sent[k]'(by rw [E1.out]; exact hlt) = x at *
      generalize s.live[k]'(by rw [E2.out]; exact hlt) = l at *
      generalize s.back[k]'(by rw [E3.out]; exact hlt) = b at *
      have HAT := Lib.hid hat
      have HIN := Lib.hid hin
      have G1 := Lib.hid g1
      have G2 := Lib.hid g2
      have G3 := Lib.hid g3
      have p1 : (k : Int) < (n : Int) := by omega
      have pw : IntKind.i64.wrap ((k : Int) + 1) = (k : Int) + 1 := IntWalk.i64_in _ (by omega)
      have H2 := Lib.hid (show w.cell? (ad2.add (k * 1)) = some (.bool l) by rw [Nat.mul_one]; exact g2)
      have H3 := Lib.hid (show w.cell? (ad3.add (k * 1)) = some (.bool b) by rw [Nat.mul_one]; exact g3)
      clear hat hin g1 g2 g3
      cases o1 : okPk x with
      | false =>
        have O1 := Lib.hid o1
        have R := Lib.hid (show okSt s = false by rw [R0.out, sentOk_bad (s := s) (k := k) HIN.out (by rw [HAT.out]; simp [pkAtOk, o1])]; simp)
        clear o1
        go_wp2
        have S0 := (Sep.only1 (a1 := aBox gS _ _ _) S (by (repeat (first | with_reducible exact Del.head _ _ | with_reducible apply Del.tail)) <;> fail))
        refine wp_region_noPanic ?_
        refine wp_region_held_drew (S := Sep _ _ _) (by kernel_rfl) S0.drew (fun _ => ?_)
        replace S := S.drew
        clear S0
        refine' wpAnyH_take (i := 0) (v := _) (by (conv => lhs; simp only [List.getElem?_toArray, List.getElem?_cons_zero, List.getElem?_cons_succ]); try exact rfl) (by kernel_rfl) (by kernel_rfl) (by kernel_rfl) (fun _ _ _ h => h) ?hy1 (by assumption) ?hr1
        case hy1 => (first | exact Or.inl ⟨by rfl, by intro w9 _; first | (go_simp; done) | (go_simp; with_reducible rfl)⟩ | (refine Or.inr ⟨by rfl, ?_⟩; rfl))
        (try simp only [Act.put, List.setIfInBounds_toArray, List.set_cons_zero, List.set_cons_succ])
        refine' wpAnyH_take (i := 1) (v := _) (by (conv => lhs; simp only [List.getElem?_toArray, List.getElem?_cons_zero, List.getElem?_cons_succ]); try exact rfl) (by kernel_rfl) (by kernel_rfl) (by kernel_rfl) (fun _ _ _ h => h) ?hy2 (by assumption) ?hr2
        case hy2 => (first | (refine' yields_sload1 ?x2a 22 _ ?x2b ?x2c ?x2d _ ?x2e ?x2f _ ?x2g; (case x2a => rfl); (case x2b => rfl); (case x2c => rfl); (case x2d => (repeat (first | with_reducible exact List.mem_cons_self | with_reducible apply List.mem_cons_of_mem)) <;> fail); (case x2e => exact Try.underlying22); (case x2f => rfl); (case x2g => exact (by (conv => lhs; simp only [List.getElem?_cons_succ, List.getElem?_cons_zero]); try exact rfl))))
        (try simp only [Act.put, List.setIfInBounds_toArray, List.set_cons_zero, List.set_cons_succ])
        refine' wpAnyH_take (i := 2) (v := _) (by (conv => lhs; simp only [List.getElem?_toArray, List.getElem?_cons_zero, List.getElem?_cons_succ]); try exact rfl) (by kernel_rfl) (by kernel_rfl) (by kernel_rfl) (fun _ _ _ h => h) ?hy3 (by assumption) ?hr3
        case hy3 => (first | exact Or.inl ⟨by rfl, by intro w9 _; first | (go_simp; done) | (go_simp; with_reducible rfl)⟩ | (refine Or.inr ⟨by rfl, ?_⟩; rfl))
        (try simp only [Act.put, List.setIfInBounds_toArray, List.set_cons_zero, List.set_cons_succ])
        refine' wpAnyH_take (i := 3) (v := _) (by (conv => lhs; simp only [List.getElem?_toArray, List.getElem?_cons_zero, List.getElem?_cons_succ]); try exact rfl) (by kernel_rfl) (by kernel_rfl) (by kernel_rfl) (fun _ _ _ h => h) ?hy4 (by assumption) ?hr4
        case hy4 => (first | exact Or.inl ⟨by rfl, by intro w9 _; first | (go_simp; done) | (go_simp; with_reducible rfl)⟩ | (refine Or.inr ⟨by rfl, ?_⟩; rfl))
        (try simp only [Act.put, List.setIfInBounds_toArray, List.set_cons_zero, List.set_cons_succ])
        refine' wpAnyH_take (i := 4) (v := _) (by (conv => lhs; simp only [List.getElem?_toArray, List.getElem?_cons_zero, List.getElem?_cons_succ]); try exact rfl) (by kernel_rfl) (by kernel_rfl) (by kernel_rfl) (fun _ _ _ h => h) ?hy5 (by assumption) ?hr5
        case hy5 => first | (refine' yields_pkld (p := x) ?ta 41 _ ?tb ?tc ?td _ ?te ?tf ?tg; (case ta => rfl); (case tb => rfl); (case tc => rfl); (case td => exact fun W hW => G1.out.fr hW.frame); (case te => exact Try.underlying41); (case tf => rfl); (case tg => exact ts41))
        (try simp only [Act.put, List.setIfInBounds_toArray, List.set_cons_zero, List.set_cons_succ])
        refine wpAnyH_ready (rs := [5]) (by kernel_rfl) (by simp) ?_
        refine AllReadyH.cons (i := 5) (by (conv => lhs; simp only [List.getElem?_toArray, List.getElem?_cons_zero, List.getElem?_cons_succ]); try exact rfl) (fun K hK => ?_) AllReadyH.nil
        go_simp; (skip; go_at_call 46; (with_reducible refine (sPacketOk_l _ x).mono ?_); rintro e w9 ⟨rfl, f9⟩; rw [O1.out]; replace S := S.fr f9; clear f9)
        (first | refine hK.out _ _ (S.sub (by (repeat (first | exact List.nil_sublist _ | exact List.Sublist.refl _ | with_reducible apply List.Sublist.cons_cons | apply List.Sublist.cons)) <;> fail)) (fun _ => ?_) | (go_wp2_with fail; refine hK.out _ _ (S.sub (by (repeat (first | exact List.nil_sublist _ | exact List.Sublist.refl _ | with_reducible apply List.Sublist.cons_cons | apply List.Sublist.cons)) <;> fail)) (fun _ => ?_)))
        clear hK K
        (try simp only [Act.put, List.setIfInBounds_toArray, List.set_cons_zero, List.set_cons_succ])
        refine' wpAnyH_take (i := 6) (v := _) (by (conv => lhs; simp only [List.getElem?_toArray, List.getElem?_cons_zero, List.getElem?_cons_succ]); try exact rfl) (by kernel_rfl) (by kernel_rfl) (by kernel_rfl) (fun _ _ _ h => h) ?hy6 (by assumption) ?hr6
        case hy6 => (first | exact Or.inl ⟨by rfl, by intro w9 _; first | (go_simp; done) | (go_simp; with_reducible rfl)⟩ | (refine Or.inr ⟨by rfl, ?_⟩; rfl))
        (try simp only [Act.put, List.setIfInBounds_toArray, List.set_cons_zero, List.set_cons_succ])
        refine' wpAnyH_take (i := 7) (v := _) (by (conv => lhs; simp only [List.getElem?_toArray, List.getElem?_cons_zero, List.getElem?_cons_succ]); try exact rfl) (by kernel_rfl) (by kernel_rfl) (by kernel_rfl) (fun _ _ _ h => h) ?hy7 (by assumption) ?hr7
        case hy7 => (first | exact Or.inl ⟨by rfl, by intro w9 _; first | (go_simp; done) | (go_simp; with_reducible rfl)⟩ | (refine Or.inr ⟨by rfl, ?_⟩; rfl))
        (try simp only [Act.put, List.setIfInBounds_toArray, List.set_cons_zero, List.set_cons_succ])
        refine' wpAnyH_take (i := 8) (v := _) (by (conv => lhs; simp only [List.getElem?_toArray, List.getElem?_cons_zero, List.getElem?_cons_succ]); try exact rfl) (by kernel_rfl) (by kernel_rfl) (by kernel_rfl) (fun _ _ _ h => h) ?hy8 (by assumption) ?hr8
        case hy8 => (first | exact Or.inl ⟨by rfl, by intro w9 _; first | (go_simp; done) | (go_simp; with_reducible rfl)⟩ | (refine Or.inr ⟨by rfl, ?_⟩; rfl))
        (try simp only [Act.put, List.setIfInBounds_toArray, List.set_cons_zero, List.set_cons_succ])
        refine' wpAnyH_take (i := 9) (v := _) (by (conv => lhs; simp only [List.getElem?_toArray, List.getElem?_cons_zero, List.getElem?_cons_succ]); try exact rfl) (by kernel_rfl) (by kernel_rfl) (by kernel_rfl) (fun _ _ _ h => h) ?hy9 (by assumption) ?hr9
        case hy9 => (first | (refine Or.inr ⟨by rfl, ?_⟩; rfl) | (refine' yields_sload1 ?x9a 22 _ ?x9b ?x9c ?x9d _ ?x9e ?x9f _ ?x9g; (case x9a => rfl); (case x9b => rfl); (case x9c => rfl); (case x9d => (repeat (first | with_reducible exact List.mem_cons_self | with_reducible apply List.mem_cons_of_mem)) <;> fail); (case x9e => exact Try.underlying22); (case x9f => rfl); (case x9g => exact (by (conv => lhs; simp only [List.getElem?_cons_succ, List.getElem?_cons_zero]); try exact rfl))))
        (try simp only [Act.put, List.setIfInBounds_toArray, List.set_cons_zero, List.set_cons_succ])
        refine' wpAnyH_take (i := 10) (v := _) (by (conv => lhs; simp only [List.getElem?_toArray, List.getElem?_cons_zero, List.getElem?_cons_succ]); try exact rfl) (by kernel_rfl) (by kernel_rfl) (by kernel_rfl) (fun _ _ _ h => h) ?hy10 (by assumption) ?hr10
        case hy10 => (first | exact Or.inl ⟨by rfl, by intro w9 _; first | (go_simp; done) | (go_simp; with_reducible rfl)⟩ | (refine Or.inr ⟨by rfl, ?_⟩; rfl))
        (try simp only [Act.put, List.setIfInBounds_toArray, List.set_cons_zero, List.set_cons_succ])
        refine' wpAnyH_take (i := 11) (v := _) (by (conv => lhs; simp only [List.getElem?_toArray, List.getElem?_cons_zero, List.getElem?_cons_succ]); try exact rfl) (by kernel_rfl) (by kernel_rfl) (by kernel_rfl) (fun _ _ _ h => h) ?hy11 (by assumption) ?hr11
        case hy11 => (first | exact Or.inl ⟨by rfl, by intro w9 _; first | (go_simp; done) | (go_simp; with_reducible rfl)⟩ | (refine Or.inr ⟨by rfl, ?_⟩; rfl))
        (try simp only [Act.put, List.setIfInBounds_toArray, List.set_cons_zero, List.set_cons_succ])
        refine' wpAnyH_take (i := 12) (v := _) (by (conv => lhs; simp only [List.getElem?_toArray, List.getElem?_cons_zero, List.getElem?_cons_succ]); try exact rfl) (by kernel_rfl) (by kernel_rfl) (by kernel_rfl) (fun _ _ _ h => h) ?hy12 (by assumption) ?hr12
        case hy12 => (first | exact Or.inl ⟨by rfl, by intro w9 _; first | (go_simp; done) | (go_simp; with_reducible rfl)⟩ | (refine Or.inr ⟨by rfl, ?_⟩; rfl))
        (try simp only [Act.put, List.setIfInBounds_toArray, List.set_cons_zero, List.set_cons_succ])
        refine' wpAnyH_take (i := 13) (v := _) (by (conv => lhs; simp only [List.getElem?_toArray, List.getElem?_cons_zero, List.getElem?_cons_succ]); try exact rfl) (by kernel_rfl) (by kernel_rfl) (by kernel_rfl) (fun _ _ _ h => h) ?hy13 (by assumption) ?hr13
        case hy13 => first | (refine' yields_cell (v := .int .i64 x.seq) ?ta 3 _ ?tb ?tc ?td _ ?te ?tf; (case ta => rfl); (case tb => rfl); (case tc => rfl); (case td => exact fun W hW => (G1.out.fr hW.frame).at_ 0 _ rfl); (case te => exact Try.underlying3); (case tf => rfl)) | (refine Or.inr ⟨by rfl, ?_⟩; rfl)
        (try simp only [Act.put, List.setIfInBounds_toArray, List.set_cons_zero, List.set_cons_succ])
        refine' wpAnyH_take (i := 14) (v := _) (by (conv => lhs; simp only [List.getElem?_toArray, List.getElem?_cons_zero, List.getElem?_cons_succ]); try exact rfl) (by kernel_rfl) (by kernel_rfl) (by kernel_rfl) (fun _ _ _ h => h) ?hy14 (by assumption) ?hr14
        case hy14 => (first | exact Or.inl ⟨by rfl, by intro w9 _; first | (go_simp; done) | (go_simp; with_reducible rfl)⟩ | (refine Or.inr ⟨by rfl, ?_⟩; rfl))
        (try simp only [Act.put, List.setIfInBounds_toArray, List.set_cons_zero, List.set_cons_succ])
        refine' wpAnyH_take (i := 15) (v := _) (by (conv => lhs; simp only [List.getElem?_toArray, List.getElem?_cons_zero, List.getElem?_cons_succ]); try exact rfl) (by kernel_rfl) (by kernel_rfl) (by kernel_rfl) (fun _ _ _ h => h) ?hy15 (by assumption) ?hr15
        case hy15 => (first | exact Or.inl ⟨by rfl, by intro w9 _; first | (go_simp; done) | (go_simp; with_reducible rfl)⟩ | (refine Or.inr ⟨by rfl, ?_⟩; rfl))
        (try simp only [Act.put, List.setIfInBounds_toArray, List.set_cons_zero, List.set_cons_succ])
        refine' wpAnyH_take (i := 16) (v := _) (by (conv => lhs; simp only [List.getElem?_toArray, List.getElem?_cons_zero, List.getElem?_cons_succ]); try exact rfl) (by kernel_rfl) (by kernel_rfl) (by kernel_rfl) (fun _ _ _ h => h) ?hy16 (by assumption) ?hr16
        case hy16 => (first | exact Or.inl ⟨by rfl, by intro w9 _; first | (go_simp; done) | (go_simp; with_reducible rfl)⟩ | (refine Or.inr ⟨by rfl, ?_⟩; rfl))
        (try simp only [Act.put, List.setIfInBounds_toArray, List.set_cons_zero, List.set_cons_succ])
        refine' wpAnyH_take (i := 17) (v := _) (by (conv => lhs; simp only [List.getElem?_toArray, List.getElem?_cons_zero, List.getElem?_cons_succ]); try exact rfl) (by kernel_rfl) (by kernel_rfl) (by kernel_rfl) (fun _ _ _ h => h) ?hy17 (by assumption) ?hr17
        case hy17 => (first | exact Or.inl ⟨by rfl, by intro w9 _; first | (go_simp; done) | (go_simp; with_reducible rfl)⟩ | (refine Or.inr ⟨by rfl, ?_⟩; rfl))
        (try simp only [Act.put, List.setIfInBounds_toArray, List.set_cons_zero, List.set_cons_succ])
        refine' wpAnyH_take (i := 18) (v := _) (by (conv => lhs; simp only [List.getElem?_toArray, List.getElem?_cons_zero, List.getElem?_cons_succ]); try exact rfl) (by kernel_rfl) (by kernel_rfl) (by kernel_rfl) (fun _ _ _ h => h) ?hy18 (by assumption) ?hr18
        case hy18 => (first | exact Or.inl ⟨by rfl, by intro w9 _; first | (go_simp; done) | (go_simp; with_reducible rfl)⟩ | (refine Or.inr ⟨by rfl, ?_⟩; rfl))
        (try simp only [Act.put, List.setIfInBounds_toArray, List.set_cons_zero, List.set_cons_succ])
        refine' wpAnyH_take (i := 19) (v := _) (by (conv => lhs; simp only [List.getElem?_toArray, List.getElem?_cons_zero, List.getElem?_cons_succ]); try exact rfl) (by kernel_rfl) (by kernel_rfl) (by kernel_rfl) (fun _ _ _ h => h) ?hy19 (by assumption) ?hr19
        case hy19 => (first | exact Or.inl ⟨by rfl, by intro w9 _; first | (go_simp; done) | (go_simp; with_reducible rfl)⟩ | (refine Or.inr ⟨by rfl, ?_⟩; rfl))
        (try simp only [Act.put, List.setIfInBounds_toArray, List.set_cons_zero, List.set_cons_succ])
        refine' wpAnyH_take (i := 20) (v := _) (by (conv => lhs; simp only [List.getElem?_toArray, List.getElem?_cons_zero, List.getElem?_cons_succ]); try exact rfl) (by kernel_rfl) (by kernel_rfl) (by kernel_rfl) (fun _ _ _ h => h) ?hy20 (by assumption) ?hr20
        case hy20 => (first | (refine Or.inr ⟨by rfl, ?_⟩; rfl) | (refine' yields_sload1 ?x20a 23 _ ?x20b ?x20c ?x20d _ ?x20e ?x20f _ ?x20g; (case x20a => rfl); (case x20b => rfl); (case x20c => rfl); (case x20d => (repeat (first | with_reducible exact List.mem_cons_self | with_reducible apply List.mem_cons_of_mem)) <;> fail); (case x20e => exact Try.underlying23); (case x20f => rfl); (case x20g => exact (by (conv => lhs; simp only [List.getElem?_cons_succ, List.getElem?_cons_zero]); try exact rfl))))
        (try simp only [Act.put, List.setIfInBounds_toArray, List.set_cons_zero, List.set_cons_succ])
        refine' wpAnyH_take (i := 21) (v := _) (by (conv => lhs; simp only [List.getElem?_toArray, List.getElem?_cons_zero, List.getElem?_cons_succ]); try exact rfl) (by kernel_rfl) (by kernel_rfl) (by kernel_rfl) (fun _ _ _ h => h) ?hy21 (by assumption) ?hr21
        case hy21 => (first | exact Or.inl ⟨by rfl, by intro w9 _; first | (go_simp; done) | (go_simp; with_reducible rfl)⟩ | (refine Or.inr ⟨by rfl, ?_⟩; rfl))
        (try simp only [Act.put, List.setIfInBounds_toArray, List.set_cons_zero, List.set_cons_succ])
        refine' wpAnyH_take (i := 22) (v := _) (by (conv => lhs; simp only [List.getElem?_toArray, List.getElem?_cons_zero, List.getElem?_cons_succ]); try exact rfl) (by kernel_rfl) (by kernel_rfl) (by kernel_rfl) (fun _ _ _ h => h) ?hy22 (by assumption) ?hr22
        case hy22 => (first | exact Or.inl ⟨by rfl, by intro w9 _; first | (go_simp; done) | (go_simp; with_reducible rfl)⟩ | (refine Or.inr ⟨by rfl, ?_⟩; rfl))
        (try simp only [Act.put, List.setIfInBounds_toArray, List.set_cons_zero, List.set_cons_succ])
        refine' wpAnyH_take (i := 23) (v := _) (by (conv => lhs; simp only [List.getElem?_toArray, List.getElem?_cons_zero, List.getElem?_cons_succ]); try exact rfl) (by kernel_rfl) (by kernel_rfl) (by kernel_rfl) (fun _ _ _ h => h) ?hy23 (by assumption) ?hr23
        case hy23 => first | (refine' yields_cell (v := .bool true) ?ta 4 _ ?tb ?tc ?td _ ?te ?tf; (case ta => rfl); (case tb => rfl); (case tc => rfl); (case td => exact fun W hW => hW.frame.cell G2.out); (case te => exact Try.underlying4); (case tf => rfl)) | (refine' yields_cell (v := .bool false) ?ta 4 _ ?tb ?tc ?td _ ?te ?tf; (case ta => rfl); (case tb => rfl); (case tc => rfl); (case td => exact fun W hW => hW.frame.cell G2.out); (case te => exact Try.underlying4); (case tf => rfl)) | (refine' yields_cell (v := .bool l) ?ta 4 _ ?tb ?tc ?td _ ?te ?tf; (case ta => rfl); (case tb => rfl); (case tc => rfl); (case td => exact fun W hW => hW.frame.cell G2.out); (case te => exact Try.underlying4); (case tf => rfl)) | (refine Or.inr ⟨by rfl, ?_⟩; rfl)
        (try simp only [Act.put, List.setIfInBounds_toArray, List.set_cons_zero, List.set_cons_succ])
        refine' wpAnyH_take (i := 24) (v := _) (by (conv => lhs; simp only [List.getElem?_toArray, List.getElem?_cons_zero, List.getElem?_cons_succ]); try exact rfl) (by kernel_rfl) (by kernel_rfl) (by kernel_rfl) (fun _ _ _ h => h) ?hy24 (by assumption) ?hr24
        case hy24 => (first | exact Or.inl ⟨by rfl, by intro w9 _; first | (go_simp; done) | (go_simp; with_reducible rfl)⟩ | (refine Or.inr ⟨by rfl, ?_⟩; rfl))
        (try simp only [Act.put, List.setIfInBounds_toArray, List.set_cons_zero, List.set_cons_succ])
        refine' wpAnyH_take (i := 25) (v := _) (by (conv => lhs; simp only [List.getElem?_toArray, List.getElem?_cons_zero, List.getElem?_cons_succ]); try exact rfl) (by kernel_rfl) (by kernel_rfl) (by kernel_rfl) (fun _ _ _ h => h) ?hy25 (by assumption) ?hr25
        case hy25 => (first | exact Or.inl ⟨by rfl, by intro w9 _; first | (go_simp; done) | (go_simp; with_reducible rfl)⟩ | (refine Or.inr ⟨by rfl, ?_⟩; rfl))
        (try simp only [Act.put, List.setIfInBounds_toArray, List.set_cons_zero, List.set_cons_succ])
        refine' wpAnyH_take (i := 26) (v := _) (by (conv => lhs; simp only [List.getElem?_toArray, List.getElem?_cons_zero, List.getElem?_cons_succ]); try exact rfl) (by kernel_rfl) (by kernel_rfl) (by kernel_rfl) (fun _ _ _ h => h) ?hy26 (by assumption) ?hr26
        case hy26 => (first | (refine Or.inr ⟨by rfl, ?_⟩; rfl) | (refine' yields_sload1 ?x26a 23 _ ?x26b ?x26c ?x26d _ ?x26e ?x26f _ ?x26g; (case x26a => rfl); (case x26b => rfl); (case x26c => rfl); (case x26d => (repeat (first | with_reducible exact List.mem_cons_self | with_reducible apply List.mem_cons_of_mem)) <;> fail); (case x26e => exact Try.underlying23); (case x26f => rfl); (case x26g => exact (by (conv => lhs; simp only [List.getElem?_cons_succ, List.getElem?_cons_zero]); try exact rfl))))
        (try simp only [Act.put, List.setIfInBounds_toArray, List.set_cons_zero, List.set_cons_succ])
        refine' wpAnyH_take (i := 27) (v := _) (by (conv => lhs; simp only [List.getElem?_toArray, List.getElem?_cons_zero, List.getElem?_cons_succ]); try exact rfl) (by kernel_rfl) (by kernel_rfl) (by kernel_rfl) (fun _ _ _ h => h) ?hy27 (by assumption) ?hr27
        case hy27 => (first | exact Or.inl ⟨by rfl, by intro w9 _; first | (go_simp; done) | (go_simp; with_reducible rfl)⟩ | (refine Or.inr ⟨by rfl, ?_⟩; rfl))
        (try simp only [Act.put, List.setIfInBounds_toArray, List.set_cons_zero, List.set_cons_succ])
        refine' wpAnyH_take (i := 28) (v := _) (by (conv => lhs; simp only [List.getElem?_toArray, List.getElem?_cons_zero, List.getElem?_cons_succ]); try exact rfl) (by kernel_rfl) (by kernel_rfl) (by kernel_rfl) (fun _ _ _ h => h) ?hy28 (by assumption) ?hr28
        case hy28 => (first | exact Or.inl ⟨by rfl, by intro w9 _; first | (go_simp; done) | (go_simp; with_reducible rfl)⟩ | (refine Or.inr ⟨by rfl, ?_⟩; rfl))
        (try simp only [Act.put, List.setIfInBounds_toArray, List.set_cons_zero, List.set_cons_succ])
        refine' wpAnyH_take (i := 29) (v := _) (by (conv => lhs; simp only [List.getElem?_toArray, List.getElem?_cons_zero, List.getElem?_cons_succ]); try exact rfl) (by kernel_rfl) (by kernel_rfl) (by kernel_rfl) (fun _ _ _ h => h) ?hy29 (by assumption) ?hr29
        case hy29 => first | (refine' yields_cell (v := .bool true) ?ta 4 _ ?tb ?tc ?td _ ?te ?tf; (case ta => rfl); (case tb => rfl); (case tc => rfl); (case td => exact fun W hW => hW.frame.cell G3.out); (case te => exact Try.underlying4); (case tf => rfl)) | (refine' yields_cell (v := .bool false) ?ta 4 _ ?tb ?tc ?td _ ?te ?tf; (case ta => rfl); (case tb => rfl); (case tc => rfl); (case td => exact fun W hW => hW.frame.cell G3.out); (case te => exact Try.underlying4); (case tf => rfl)) | (refine' yields_cell (v := .bool b) ?ta 4 _ ?tb ?tc ?td _ ?te ?tf; (case ta => rfl); (case tb => rfl); (case tc => rfl); (case td => exact fun W hW => hW.frame.cell G3.out); (case te => exact Try.underlying4); (case tf => rfl)) | (refine Or.inr ⟨by rfl, ?_⟩; rfl)
        (try simp only [Act.put, List.setIfInBounds_toArray, List.set_cons_zero, List.set_cons_succ])
        refine' wpAnyH_take (i := 30) (v := _) (by (conv => lhs; simp only [List.getElem?_toArray, List.getElem?_cons_zero, List.getElem?_cons_succ]); try exact rfl) (by kernel_rfl) (by kernel_rfl) (by kernel_rfl) (fun _ _ _ h => h) ?hy30 (by assumption) ?hr30
        case hy30 => (first | exact Or.inl ⟨by rfl, by intro w9 _; first | (go_simp; done) | (go_simp; with_reducible rfl)⟩ | (refine Or.inr ⟨by rfl, ?_⟩; rfl))
        (try simp only [Act.put, List.setIfInBounds_toArray, List.set_cons_zero, List.set_cons_succ])
        refine' wpAnyH_take (i := 31) (v := _) (by (conv => lhs; simp only [List.getElem?_toArray, List.getElem?_cons_zero, List.getElem?_cons_succ]); try exact rfl) (by kernel_rfl) (by kernel_rfl) (by kernel_rfl) (fun _ _ _ h => h) ?hy31 (by assumption) ?hr31
        case hy31 => (first | exact Or.inl ⟨by rfl, by intro w9 _; first | (go_simp; done) | (go_simp; with_reducible rfl)⟩ | (refine Or.inr ⟨by rfl, ?_⟩; rfl))
        (try simp only [Act.put, List.setIfInBounds_toArray, List.set_cons_zero, List.set_cons_succ])
        refine' wpAnyH_take (i := 32) (v := _) (by (conv => lhs; simp only [List.getElem?_toArray, List.getElem?_cons_zero, List.getElem?_cons_succ]); try exact rfl) (by kernel_rfl) (by kernel_rfl) (by kernel_rfl) (fun _ _ _ h => h) ?hy32 (by assumption) ?hr32
        case hy32 => (first | exact Or.inl ⟨by rfl, by intro w9 _; first | (go_simp; done) | (go_simp; with_reducible rfl)⟩ | (refine Or.inr ⟨by rfl, ?_⟩; rfl))
        (try simp only [Act.put, List.setIfInBounds_toArray, List.set_cons_zero, List.set_cons_succ])
        refine' wpAnyH_take (i := 33) (v := _) (by (conv => lhs; simp only [List.getElem?_toArray, List.getElem?_cons_zero, List.getElem?_cons_succ]); try exact rfl) (by kernel_rfl) (by kernel_rfl) (by kernel_rfl) (fun _ _ _ h => h) ?hy33 (by assumption) ?hr33
        case hy33 => (first | exact Or.inl ⟨by rfl, by intro w9 _; first | (go_simp; done) | (go_simp; with_reducible rfl)⟩ | (refine Or.inr ⟨by rfl, ?_⟩; rfl))
        (try simp only [Act.put, List.setIfInBounds_toArray, List.set_cons_zero, List.set_cons_succ])
        refine' wpAnyH_take (i := 34) (v := _) (by (conv => lhs; simp only [List.getElem?_toArray, List.getElem?_cons_zero, List.getElem?_cons_succ]); try exact rfl) (by kernel_rfl) (by kernel_rfl) (by kernel_rfl) (fun _ _ _ h => h) ?hy34 (by assumption) ?hr34
        case hy34 => (first | (refine Or.inr ⟨by rfl, ?_⟩; rfl) | (refine' yields_sload1 ?x34a 22 _ ?x34b ?x34c ?x34d _ ?x34e ?x34f _ ?x34g; (case x34a => rfl); (case x34b => rfl); (case x34c => rfl); (case x34d => (repeat (first | with_reducible exact List.mem_cons_self | with_reducible apply List.mem_cons_of_mem)) <;> fail); (case x34e => exact Try.underlying22); (case x34f => rfl); (case x34g => exact (by (conv => lhs; simp only [List.getElem?_cons_succ, List.getElem?_cons_zero]); try exact rfl))))
        (try simp only [Act.put, List.setIfInBounds_toArray, List.set_cons_zero, List.set_cons_succ])
        refine' wpAnyH_take (i := 35) (v := _) (by (conv => lhs; simp only [List.getElem?_toArray, List.getElem?_cons_zero, List.getElem?_cons_succ]); try exact rfl) (by kernel_rfl) (by kernel_rfl) (by kernel_rfl) (fun _ _ _ h => h) ?hy35 (by assumption) ?hr35
        case hy35 => (first | exact Or.inl ⟨by rfl, by intro w9 _; first | (go_simp; done) | (go_simp; with_reducible rfl)⟩ | (refine Or.inr ⟨by rfl, ?_⟩; rfl))
        (try simp only [Act.put, List.setIfInBounds_toArray, List.set_cons_zero, List.set_cons_succ])
        refine' wpAnyH_take (i := 36) (v := _) (by (conv => lhs; simp only [List.getElem?_toArray, List.getElem?_cons_zero, List.getElem?_cons_succ]); try exact rfl) (by kernel_rfl) (by kernel_rfl) (by kernel_rfl) (fun _ _ _ h => h) ?hy36 (by assumption) ?hr36
        case hy36 => (first | exact Or.inl ⟨by rfl, by intro w9 _; first | (go_simp; done) | (go_simp; with_reducible rfl)⟩ | (refine Or.inr ⟨by rfl, ?_⟩; rfl))
        (try simp only [Act.put, List.setIfInBounds_toArray, List.set_cons_zero, List.set_cons_succ])
        refine' wpAnyH_take (i := 37) (v := _) (by (conv => lhs; simp only [List.getElem?_toArray, List.getElem?_cons_zero, List.getElem?_cons_succ]); try exact rfl) (by kernel_rfl) (by kernel_rfl) (by kernel_rfl) (fun _ _ _ h => h) ?hy37 (by assumption) ?hr37
        case hy37 => (first | exact Or.inl ⟨by rfl, by intro w9 _; first | (go_simp; done) | (go_simp; with_reducible rfl)⟩ | (refine Or.inr ⟨by rfl, ?_⟩; rfl))
        (try simp only [Act.put, List.setIfInBounds_toArray, List.set_cons_zero, List.set_cons_succ])
        refine' wpAnyH_take (i := 38) (v := _) (by (conv => lhs; simp only [List.getElem?_toArray, List.getElem?_cons_zero, List.getElem?_cons_succ]); try exact rfl) (by kernel_rfl) (by kernel_rfl) (by kernel_rfl) (fun _ _ _ h => h) ?hy38 (by assumption) ?hr38
        case hy38 => first | (refine' yields_cell (v := .int .i64 x.ver) ?ta 3 _ ?tb ?tc ?td _ ?te ?tf; (case ta => rfl); (case tb => rfl); (case tc => rfl); (case td => exact fun W hW => (G1.out.fr hW.frame).at_ 6 _ rfl); (case te => exact Try.underlying3); (case tf => rfl)) | (refine Or.inr ⟨by rfl, ?_⟩; rfl)
        (try simp only [Act.put, List.setIfInBounds_toArray, List.set_cons_zero, List.set_cons_succ])
        refine' wpAnyH_take (i := 39) (v := _) (by (conv => lhs; simp only [List.getElem?_toArray, List.getElem?_cons_zero, List.getElem?_cons_succ]); try exact rfl) (by kernel_rfl) (by kernel_rfl) (by kernel_rfl) (fun _ _ _ h => h) ?hy39 (by assumption) ?hr39
        case hy39 => (first | exact Or.inl ⟨by rfl, by intro w9 _; first | (go_simp; done) | (go_simp; with_reducible rfl)⟩ | (refine Or.inr ⟨by rfl, ?_⟩; rfl))
        (try simp only [Act.put, List.setIfInBounds_toArray, List.set_cons_zero, List.set_cons_succ])
        refine' wpAnyH_take (i := 40) (v := _) (by (conv => lhs; simp only [List.getElem?_toArray, List.getElem?_cons_zero, List.getElem?_cons_succ]); try exact rfl) (by kernel_rfl) (by kernel_rfl) (by kernel_rfl) (fun _ _ _ h => h) ?hy40 (by assumption) ?hr40
        case hy40 => (first | (refine Or.inr ⟨by rfl, ?_⟩; rfl) | (refine' yields_sload1 ?x40a 3 _ ?x40b ?x40c ?x40d _ ?x40e ?x40f _ ?x40g; (case x40a => rfl); (case x40b => rfl); (case x40c => rfl); (case x40d => (repeat (first | with_reducible exact List.mem_cons_self | with_reducible apply List.mem_cons_of_mem)) <;> fail); (case x40e => exact Try.underlying3); (case x40f => rfl); (case x40g => exact (by (conv => lhs; simp only [List.getElem?_cons_succ, List.getElem?_cons_zero]); try exact rfl))))
        (try simp only [Act.put, List.setIfInBounds_toArray, List.set_cons_zero, List.set_cons_succ])
        refine' wpAnyH_take (i := 41) (v := _) (by (conv => lhs; simp only [List.getElem?_toArray, List.getElem?_cons_zero, List.getElem?_cons_succ]); try exact rfl) (by kernel_rfl) (by kernel_rfl) (by kernel_rfl) (fun _ _ _ h => h) ?hy41 (by assumption) ?hr41
        case hy41 => (first | exact Or.inl ⟨by rfl, by intro w9 _; first | (go_simp; done) | (go_simp; with_reducible rfl)⟩ | (refine Or.inr ⟨by rfl, ?_⟩; rfl))
        (try simp only [Act.put, List.setIfInBounds_toArray, List.set_cons_zero, List.set_cons_succ])
        refine' wpAnyH_take (i := 42) (v := _) (by (conv => lhs; simp only [List.getElem?_toArray, List.getElem?_cons_zero, List.getElem?_cons_succ]); try exact rfl) (by kernel_rfl) (by kernel_rfl) (by kernel_rfl) (fun _ _ _ h => h) ?hy42 (by assumption) ?hr42
        case hy42 => (first | exact Or.inl ⟨by rfl, by intro w9 _; first | (go_simp; done) | (go_simp; with_reducible rfl)⟩ | (refine Or.inr ⟨by rfl, ?_⟩; rfl))
        (try simp only [Act.put, List.setIfInBounds_toArray, List.set_cons_zero, List.set_cons_succ])
        refine wpAnyH_done (by kernel_rfl) ?_ _
        refine NoPanic.normal ?_
        go_wp2
        go_ret
        exact ⟨by rw [R.out]; rfl, S.frame⟩
      | true =>
        have O1 := Lib.hid o1
        clear o1
        by_cases hq : x.seq = (k : Int) + 1
        case neg =>
          have tq : (x.seq != (k : Int) + 1) = true := by simpa using hq
          have R := Lib.hid (show okSt s = false by rw [R0.out, sentOk_bad (s := s) (k := k) HIN.out (by rw [HAT.out]; simp [pkAtOk, O1.out, hq])]; simp)
          clear hq
          go_wp2
          have S0 := (Sep.only1 (a1 := aBox gS _ _ _) S (by (repeat (first | with_reducible exact Del.head _ _ | with_reducible apply Del.tail)) <;> fail))
          refine wp_region_noPanic ?_
          refine wp_region_held_drew (S := Sep _ _ _) (by kernel_rfl) S0.drew (fun _ => ?_)
          replace S := S.drew
          clear S0
          refine' wpAnyH_take (i := 0) (v := _) (by (conv => lhs; simp only [List.getElem?_toArray, List.getElem?_cons_zero, List.getElem?_cons_succ]); try exact rfl) (by kernel_rfl) (by kernel_rfl) (by kernel_rfl) (fun _ _ _ h => h) ?hy43 (by assumption) ?hr43
          case hy43 => (first | exact Or.inl ⟨by rfl, by intro w9 _; first | (go_simp; done) | (go_simp; with_reducible rfl)⟩ | (refine Or.inr ⟨by rfl, ?_⟩; rfl))
          (try simp only [Act.put, List.setIfInBounds_toArray, List.set_cons_zero, List.set_cons_succ])
          refine' wpAnyH_take (i := 1) (v := _) (by (conv => lhs; simp only [List.getElem?_toArray, List.getElem?_cons_zero, List.getElem?_cons_succ]); try exact rfl) (by kernel_rfl) (by kernel_rfl) (by kernel_rfl) (fun _ _ _ h => h) ?hy44 (by assumption) ?hr44
          case hy44 => (first | (refine' yields_sload1 ?x44a 22 _ ?x44b ?x44c ?x44d _ ?x44e ?x44f _ ?x44g; (case x44a => rfl); (case x44b => rfl); (case x44c => rfl); (case x44d => (repeat (first | with_reducible exact List.mem_cons_self | with_reducible apply List.mem_cons_of_mem)) <;> fail); (case x44e => exact Try.underlying22); (case x44f => rfl); (case x44g => exact (by (conv => lhs; simp only [List.getElem?_cons_succ, List.getElem?_cons_zero]); try exact rfl))))
          (try simp only [Act.put, List.setIfInBounds_toArray, List.set_cons_zero, List.set_cons_succ])
          refine' wpAnyH_take (i := 2) (v := _) (by (conv => lhs; simp only [List.getElem?_toArray, List.getElem?_cons_zero, List.getElem?_cons_succ]); try exact rfl) (by kernel_rfl) (by kernel_rfl) (by kernel_rfl) (fun _ _ _ h => h) ?hy45 (by assumption) ?hr45
          case hy45 => (first | exact Or.inl ⟨by rfl, by intro w9 _; first | (go_simp; done) | (go_simp; with_reducible rfl)⟩ | (refine Or.inr ⟨by rfl, ?_⟩; rfl))
          (try simp only [Act.put, List.setIfInBounds_toArray, List.set_cons_zero, List.set_cons_succ])
          refine' wpAnyH_take (i := 3) (v := _) (by (conv => lhs; simp only [List.getElem?_toArray, List.getElem?_cons_zero, List.getElem?_cons_succ]); try exact rfl) (by kernel_rfl) (by kernel_rfl) (by kernel_rfl) (fun _ _ _ h => h) ?hy46 (by assumption) ?hr46
          case hy46 => (first | exact Or.inl ⟨by rfl, by intro w9 _; first | (go_simp; done) | (go_simp; with_reducible rfl)⟩ | (refine Or.inr ⟨by rfl, ?_⟩; rfl))
          (try simp only [Act.put, List.setIfInBounds_toArray, List.set_cons_zero, List.set_cons_succ])
          refine' wpAnyH_take (i := 4) (v := _) (by (conv => lhs; simp only [List.getElem?_toArray, List.getElem?_cons_zero, List.getElem?_cons_succ]); try exact rfl) (by kernel_rfl) (by kernel_rfl) (by kernel_rfl) (fun _ _ _ h => h) ?hy47 (by assumption) ?hr47
          case hy47 => first | (refine' yields_pkld (p := x) ?ta 41 _ ?tb ?tc ?td _ ?te ?tf ?tg; (case ta => rfl); (case tb => rfl); (case tc => rfl); (case td => exact fun W hW => G1.out.fr hW.frame); (case te => exact Try.underlying41); (case tf => rfl); (case tg => exact ts41))
          (try simp only [Act.put, List.setIfInBounds_toArray, List.set_cons_zero, List.set_cons_succ])
          refine wpAnyH_ready (rs := [5]) (by kernel_rfl) (by simp) ?_
          refine AllReadyH.cons (i := 5) (by (conv => lhs; simp only [List.getElem?_toArray, List.getElem?_cons_zero, List.getElem?_cons_succ]); try exact rfl) (fun K hK => ?_) AllReadyH.nil
          go_simp; (skip; go_at_call 46; (with_reducible refine (sPacketOk_l _ x).mono ?_); rintro e w9 ⟨rfl, f9⟩; rw [O1.out]; replace S := S.fr f9; clear f9)
          (first | refine hK.out _ _ (S.sub (by (repeat (first | exact List.nil_sublist _ | exact List.Sublist.refl _ | with_reducible apply List.Sublist.cons_cons | apply List.Sublist.cons)) <;> fail)) (fun _ => ?_) | (go_wp2_with fail; refine hK.out _ _ (S.sub (by (repeat (first | exact List.nil_sublist _ | exact List.Sublist.refl _ | with_reducible apply List.Sublist.cons_cons | apply List.Sublist.cons)) <;> fail)) (fun _ => ?_)))
          clear hK K
          (try simp only [Act.put, List.setIfInBounds_toArray, List.set_cons_zero, List.set_cons_succ])
          refine' wpAnyH_take (i := 6) (v := _) (by (conv => lhs; simp only [List.getElem?_toArray, List.getElem?_cons_zero, List.getElem?_cons_succ]); try exact rfl) (by kernel_rfl) (by kernel_rfl) (by kernel_rfl) (fun _ _ _ h => h) ?hy48 (by assumption) ?hr48
          case hy48 => (first | exact Or.inl ⟨by rfl, by intro w9 _; first | (go_simp; done) | (go_simp; with_reducible rfl)⟩ | (refine Or.inr ⟨by rfl, ?_⟩; rfl))
          (try simp only [Act.put, List.setIfInBounds_toArray, List.set_cons_zero, List.set_cons_succ])
          refine' wpAnyH_take (i := 7) (v := _) (by (conv => lhs; simp only [List.getElem?_toArray, List.getElem?_cons_zero, List.getElem?_cons_succ]); try exact rfl) (by kernel_rfl) (by kernel_rfl) (by kernel_rfl) (fun _ _ _ h => h) ?hy49 (by assumption) ?hr49
          case hy49 => (first | exact Or.inl ⟨by rfl, by intro w9 _; first | (go_simp; done) | (go_simp; with_reducible rfl)⟩ | (refine Or.inr ⟨by rfl, ?_⟩; rfl))
          (try simp only [Act.put, List.setIfInBounds_toArray, List.set_cons_zero, List.set_cons_succ])
          refine' wpAnyH_take (i := 8) (v := _) (by (conv => lhs; simp only [List.getElem?_toArray, List.getElem?_cons_zero, List.getElem?_cons_succ]); try exact rfl) (by kernel_rfl) (by kernel_rfl) (by kernel_rfl) (fun _ _ _ h => h) ?hy50 (by assumption) ?hr50
          case hy50 => (first | exact Or.inl ⟨by rfl, by intro w9 _; first | (go_simp; done) | (go_simp; with_reducible rfl)⟩ | (refine Or.inr ⟨by rfl, ?_⟩; rfl))
          (try simp only [Act.put, List.setIfInBounds_toArray, List.set_cons_zero, List.set_cons_succ])
          refine' wpAnyH_take (i := 9) (v := _) (by (conv => lhs; simp only [List.getElem?_toArray, List.getElem?_cons_zero, List.getElem?_cons_succ]); try exact rfl) (by kernel_rfl) (by kernel_rfl) (by kernel_rfl) (fun _ _ _ h => h) ?hy51 (by assumption) ?hr51
          case hy51 => (first | (refine Or.inr ⟨by rfl, ?_⟩; rfl) | (refine' yields_sload1 ?x51a 22 _ ?x51b ?x51c ?x51d _ ?x51e ?x51f _ ?x51g; (case x51a => rfl); (case x51b => rfl); (case x51c => rfl); (case x51d => (repeat (first | with_reducible exact List.mem_cons_self | with_reducible apply List.mem_cons_of_mem)) <;> fail); (case x51e => exact Try.underlying22); (case x51f => rfl); (case x51g => exact (by (conv => lhs; simp only [List.getElem?_cons_succ, List.getElem?_cons_zero]); try exact rfl))))
          (try simp only [Act.put, List.setIfInBounds_toArray, List.set_cons_zero, List.set_cons_succ])
          refine' wpAnyH_take (i := 10) (v := _) (by (conv => lhs; simp only [List.getElem?_toArray, List.getElem?_cons_zero, List.getElem?_cons_succ]); try exact rfl) (by kernel_rfl) (by kernel_rfl) (by kernel_rfl) (fun _ _ _ h => h) ?hy52 (by assumption) ?hr52
          case hy52 => (first | exact Or.inl ⟨by rfl, by intro w9 _; first | (go_simp; done) | (go_simp; with_reducible rfl)⟩ | (refine Or.inr ⟨by rfl, ?_⟩; rfl))
          (try simp only [Act.put, List.setIfInBounds_toArray, List.set_cons_zero, List.set_cons_succ])
          refine' wpAnyH_take (i := 11) (v := _) (by (conv => lhs; simp only [List.getElem?_toArray, List.getElem?_cons_zero, List.getElem?_cons_succ]); try exact rfl) (by kernel_rfl) (by kernel_rfl) (by kernel_rfl) (fun _ _ _ h => h) ?hy53 (by assumption) ?hr53
          case hy53 => (first | exact Or.inl ⟨by rfl, by intro w9 _; first | (go_simp; done) | (go_simp; with_reducible rfl)⟩ | (refine Or.inr ⟨by rfl, ?_⟩; rfl))
          (try simp only [Act.put, List.setIfInBounds_toArray, List.set_cons_zero, List.set_cons_succ])
          refine' wpAnyH_take (i := 12) (v := _) (by (conv => lhs; simp only [List.getElem?_toArray, List.getElem?_cons_zero, List.getElem?_cons_succ]); try exact rfl) (by kernel_rfl) (by kernel_rfl) (by kernel_rfl) (fun _ _ _ h => h) ?hy54 (by assumption) ?hr54
          case hy54 => (first | exact Or.inl ⟨by rfl, by intro w9 _; first | (go_simp; done) | (go_simp; with_reducible rfl)⟩ | (refine Or.inr ⟨by rfl, ?_⟩; rfl))
          (try simp only [Act.put, List.setIfInBounds_toArray, List.set_cons_zero, List.set_cons_succ])
          refine' wpAnyH_take (i := 13) (v := _) (by (conv => lhs; simp only [List.getElem?_toArray, List.getElem?_cons_zero, List.getElem?_cons_succ]); try exact rfl) (by kernel_rfl) (by kernel_rfl) (by kernel_rfl) (fun _ _ _ h => h) ?hy55 (by assumption) ?hr55
          case hy55 => first | (refine' yields_cell (v := .int .i64 x.seq) ?ta 3 _ ?tb ?tc ?td _ ?te ?tf; (case ta => rfl); (case tb => rfl); (case tc => rfl); (case td => exact fun W hW => (G1.out.fr hW.frame).at_ 0 _ rfl); (case te => exact Try.underlying3); (case tf => rfl)) | (refine Or.inr ⟨by rfl, ?_⟩; rfl)
          (try simp only [Act.put, List.setIfInBounds_toArray, List.set_cons_zero, List.set_cons_succ])
          refine' wpAnyH_take (i := 14) (v := _) (by (conv => lhs; simp only [List.getElem?_toArray, List.getElem?_cons_zero, List.getElem?_cons_succ]); try exact rfl) (by kernel_rfl) (by kernel_rfl) (by kernel_rfl) (fun _ _ _ h => h) ?hy56 (by assumption) ?hr56
          case hy56 => (first | exact Or.inl ⟨by rfl, by intro w9 _; first | (go_simp; done) | (go_simp; with_reducible rfl)⟩ | (refine Or.inr ⟨by rfl, ?_⟩; rfl))
          (try simp only [Act.put, List.setIfInBounds_toArray, List.set_cons_zero, List.set_cons_succ])
          refine' wpAnyH_take (i := 15) (v := _) (by (conv => lhs; simp only [List.getElem?_toArray, List.getElem?_cons_zero, List.getElem?_cons_succ]); try exact rfl) (by kernel_rfl) (by kernel_rfl) (by kernel_rfl) (fun _ _ _ h => h) ?hy57 (by assumption) ?hr57
          case hy57 => (first | exact Or.inl ⟨by rfl, by intro w9 _; first | (go_simp; done) | (go_simp; with_reducible rfl)⟩ | (refine Or.inr ⟨by rfl, ?_⟩; rfl))
          (try simp only [Act.put, List.setIfInBounds_toArray, List.set_cons_zero, List.set_cons_succ])
          refine' wpAnyH_take (i := 16) (v := _) (by (conv => lhs; simp only [List.getElem?_toArray, List.getElem?_cons_zero, List.getElem?_cons_succ]); try exact rfl) (by kernel_rfl) (by kernel_rfl) (by kernel_rfl) (fun _ _ _ h => h) ?hy58 (by assumption) ?hr58
          case hy58 => (first | exact Or.inl ⟨by rfl, by intro w9 _; first | (go_simp; done) | (go_simp; with_reducible rfl)⟩ | (refine Or.inr ⟨by rfl, ?_⟩; rfl))
          (try simp only [Act.put, List.setIfInBounds_toArray, List.set_cons_zero, List.set_cons_succ])
          refine' wpAnyH_take (i := 17) (v := _) (by (conv => lhs; simp only [List.getElem?_toArray, List.getElem?_cons_zero, List.getElem?_cons_succ]); try exact rfl) (by kernel_rfl) (by kernel_rfl) (by kernel_rfl) (fun _ _ _ h => h) ?hy59 (by assumption) ?hr59
          case hy59 => (first | exact Or.inl ⟨by rfl, by intro w9 _; first | (go_simp; done) | (go_simp; with_reducible rfl)⟩ | (refine Or.inr ⟨by rfl, ?_⟩; rfl))
          (try simp only [Act.put, List.setIfInBounds_toArray, List.set_cons_zero, List.set_cons_succ])
          refine' wpAnyH_take (i := 18) (v := _) (by (conv => lhs; simp only [List.getElem?_toArray, List.getElem?_cons_zero, List.getElem?_cons_succ]); try exact rfl) (by kernel_rfl) (by kernel_rfl) (by kernel_rfl) (fun _ _ _ h => h) ?hy60 (by assumption) ?hr60
          case hy60 => (first | exact Or.inl ⟨by rfl, by intro w9 _; first | (go_simp; done) | (go_simp; with_reducible rfl)⟩ | (refine Or.inr ⟨by rfl, ?_⟩; rfl))
          (try simp only [Act.put, List.setIfInBounds_toArray, List.set_cons_zero, List.set_cons_succ])
          refine' wpAnyH_take (i := 19) (v := _) (by (conv => lhs; simp only [List.getElem?_toArray, List.getElem?_cons_zero, List.getElem?_cons_succ]); try exact rfl) (by kernel_rfl) (by kernel_rfl) (by kernel_rfl) (fun _ _ _ h => h) ?hy61 (by assumption) ?hr61
          case hy61 => (first | exact Or.inl ⟨by rfl, by intro w9 _; first | (go_simp; done) | (go_simp; with_reducible rfl)⟩ | (refine Or.inr ⟨by rfl, ?_⟩; rfl))
          (try simp only [Act.put, List.setIfInBounds_toArray, List.set_cons_zero, List.set_cons_succ])
          refine' wpAnyH_take (i := 20) (v := _) (by (conv => lhs; simp only [List.getElem?_toArray, List.getElem?_cons_zero, List.getElem?_cons_succ]); try exact rfl) (by kernel_rfl) (by kernel_rfl) (by kernel_rfl) (fun _ _ _ h => h) ?hy62 (by assumption) ?hr62
          case hy62 => (first | (refine Or.inr ⟨by rfl, ?_⟩; rfl) | (refine' yields_sload1 ?x62a 23 _ ?x62b ?x62c ?x62d _ ?x62e ?x62f _ ?x62g; (case x62a => rfl); (case x62b => rfl); (case x62c => rfl); (case x62d => (repeat (first | with_reducible exact List.mem_cons_self | with_reducible apply List.mem_cons_of_mem)) <;> fail); (case x62e => exact Try.underlying23); (case x62f => rfl); (case x62g => exact (by (conv => lhs; simp only [List.getElem?_cons_succ, List.getElem?_cons_zero]); try exact rfl))))
          (try simp only [Act.put, List.setIfInBounds_toArray, List.set_cons_zero, List.set_cons_succ])
          refine' wpAnyH_take (i := 21) (v := _) (by (conv => lhs; simp only [List.getElem?_toArray, List.getElem?_cons_zero, List.getElem?_cons_succ]); try exact rfl) (by kernel_rfl) (by kernel_rfl) (by kernel_rfl) (fun _ _ _ h => h) ?hy63 (by assumption) ?hr63
          case hy63 => (first | exact Or.inl ⟨by rfl, by intro w9 _; first | (go_simp; done) | (go_simp; with_reducible rfl)⟩ | (refine Or.inr ⟨by rfl, ?_⟩; rfl))
          (try simp only [Act.put, List.setIfInBounds_toArray, List.set_cons_zero, List.set_cons_succ])
          refine' wpAnyH_take (i := 22) (v := _) (by (conv => lhs; simp only [List.getElem?_toArray, List.getElem?_cons_zero, List.getElem?_cons_succ]); try exact rfl) (by kernel_rfl) (by kernel_rfl) (by kernel_rfl) (fun _ _ _ h => h) ?hy64 (by assumption) ?hr64
          case hy64 => (first | exact Or.inl ⟨by rfl, by intro w9 _; first | (go_simp; done) | (go_simp; with_reducible rfl)⟩ | (refine Or.inr ⟨by rfl, ?_⟩; rfl))
          (try simp only [Act.put, List.setIfInBounds_toArray, List.set_cons_zero, List.set_cons_succ])
          refine' wpAnyH_take (i := 23) (v := _) (by (conv => lhs; simp only [List.getElem?_toArray, List.getElem?_cons_zero, List.getElem?_cons_succ]); try exact rfl) (by kernel_rfl) (by kernel_rfl) (by kernel_rfl) (fun _ _ _ h => h) ?hy65 (by assumption) ?hr65
          case hy65 => first | (refine' yields_cell (v := .bool true) ?ta 4 _ ?tb ?tc ?td _ ?te ?tf; (case ta => rfl); (case tb => rfl); (case tc => rfl); (case td => exact fun W hW => hW.frame.cell G2.out); (case te => exact Try.underlying4); (case tf => rfl)) | (refine' yields_cell (v := .bool false) ?ta 4 _ ?tb ?tc ?td _ ?te ?tf; (case ta => rfl); (case tb => rfl); (case tc => rfl); (case td => exact fun W hW => hW.frame.cell G2.out); (case te => exact Try.underlying4); (case tf => rfl)) | (refine' yields_cell (v := .bool l) ?ta 4 _ ?tb ?tc ?td _ ?te ?tf; (case ta => rfl); (case tb => rfl); (case tc => rfl); (case td => exact fun W hW => hW.frame.cell G2.out); (case te => exact Try.underlying4); (case tf => rfl)) | (refine Or.inr ⟨by rfl, ?_⟩; rfl)
          (try simp only [Act.put, List.setIfInBounds_toArray, List.set_cons_zero, List.set_cons_succ])
          refine' wpAnyH_take (i := 24) (v := _) (by (conv => lhs; simp only [List.getElem?_toArray, List.getElem?_cons_zero, List.getElem?_cons_succ]); try exact rfl) (by kernel_rfl) (by kernel_rfl) (by kernel_rfl) (fun _ _ _ h => h) ?hy66 (by assumption) ?hr66
          case hy66 => (first | exact Or.inl ⟨by rfl, by intro w9 _; first | (go_simp; done) | (go_simp; with_reducible rfl)⟩ | (refine Or.inr ⟨by rfl, ?_⟩; rfl))
          (try simp only [Act.put, List.setIfInBounds_toArray, List.set_cons_zero, List.set_cons_succ])
          refine' wpAnyH_take (i := 25) (v := _) (by (conv => lhs; simp only [List.getElem?_toArray, List.getElem?_cons_zero, List.getElem?_cons_succ]); try exact rfl) (by kernel_rfl) (by kernel_rfl) (by kernel_rfl) (fun _ _ _ h => h) ?hy67 (by assumption) ?hr67
          case hy67 => (first | exact Or.inl ⟨by rfl, by intro w9 _; first | (go_simp; done) | (go_simp; with_reducible rfl)⟩ | (refine Or.inr ⟨by rfl, ?_⟩; rfl))
          (try simp only [Act.put, List.setIfInBounds_toArray, List.set_cons_zero, List.set_cons_succ])
          refine' wpAnyH_take (i := 26) (v := _) (by (conv => lhs; simp only [List.getElem?_toArray, List.getElem?_cons_zero, List.getElem?_cons_succ]); try exact rfl) (by kernel_rfl) (by kernel_rfl) (by kernel_rfl) (fun _ _ _ h => h) ?hy68 (by assumption) ?hr68
          case hy68 => (first | (refine Or.inr ⟨by rfl, ?_⟩; rfl) | (refine' yields_sload1 ?x68a 23 _ ?x68b ?x68c ?x68d _ ?x68e ?x68f _ ?x68g; (case x68a => rfl); (case x68b => rfl); (case x68c => rfl); (case x68d => (repeat (first | with_reducible exact List.mem_cons_self | with_reducible apply List.mem_cons_of_mem)) <;> fail); (case x68e => exact Try.underlying23); (case x68f => rfl); (case x68g => exact (by (conv => lhs; simp only [List.getElem?_cons_succ, List.getElem?_cons_zero]); try exact rfl))))
          (try simp only [Act.put, List.setIfInBounds_toArray, List.set_cons_zero, List.set_cons_succ])
          refine' wpAnyH_take (i := 27) (v := _) (by (conv => lhs; simp only [List.getElem?_toArray, List.getElem?_cons_zero, List.getElem?_cons_succ]); try exact rfl) (by kernel_rfl) (by kernel_rfl) (by kernel_rfl) (fun _ _ _ h => h) ?hy69 (by assumption) ?hr69
          case hy69 => (first | exact Or.inl ⟨by rfl, by intro w9 _; first | (go_simp; done) | (go_simp; with_reducible rfl)⟩ | (refine Or.inr ⟨by rfl, ?_⟩; rfl))
          (try simp only [Act.put, List.setIfInBounds_toArray, List.set_cons_zero, List.set_cons_succ])
          refine' wpAnyH_take (i := 28) (v := _) (by (conv => lhs; simp only [List.getElem?_toArray, List.getElem?_cons_zero, List.getElem?_cons_succ]); try exact rfl) (by kernel_rfl) (by kernel_rfl) (by kernel_rfl) (fun _ _ _ h => h) ?hy70 (by assumption) ?hr70
          case hy70 => (first | exact Or.inl ⟨by rfl, by intro w9 _; first | (go_simp; done) | (go_simp; with_reducible rfl)⟩ | (refine Or.inr ⟨by rfl, ?_⟩; rfl))
          (try simp only [Act.put, List.setIfInBounds_toArray, List.set_cons_zero, List.set_cons_succ])
          refine' wpAnyH_take (i := 29) (v := _) (by (conv => lhs; simp only [List.getElem?_toArray, List.getElem?_cons_zero, List.getElem?_cons_succ]); try exact rfl) (by kernel_rfl) (by kernel_rfl) (by kernel_rfl) (fun _ _ _ h => h) ?hy71 (by assumption) ?hr71
          case hy71 => first | (refine' yields_cell (v := .bool true) ?ta 4 _ ?tb ?tc ?td _ ?te ?tf; (case ta => rfl); (case tb => rfl); (case tc => rfl); (case td => exact fun W hW => hW.frame.cell G3.out); (case te => exact Try.underlying4); (case tf => rfl)) | (refine' yields_cell (v := .bool false) ?ta 4 _ ?tb ?tc ?td _ ?te ?tf; (case ta => rfl); (case tb => rfl); (case tc => rfl); (case td => exact fun W hW => hW.frame.cell G3.out); (case te => exact Try.underlying4); (case tf => rfl)) | (refine' yields_cell (v := .bool b) ?ta 4 _ ?tb ?tc ?td _ ?te ?tf; (case ta => rfl); (case tb => rfl); (case tc => rfl); (case td => exact fun W hW => hW.frame.cell G3.out); (case te => exact Try.underlying4); (case tf => rfl)) | (refine Or.inr ⟨by rfl, ?_⟩; rfl)
          (try simp only [Act.put, List.setIfInBounds_toArray, List.set_cons_zero, List.set_cons_succ])
          refine' wpAnyH_take (i := 30) (v := _) (by (conv => lhs; simp only [List.getElem?_toArray, List.getElem?_cons_zero, List.getElem?_cons_succ]); try exact rfl) (by kernel_rfl) (by kernel_rfl) (by kernel_rfl) (fun _ _ _ h => h) ?hy72 (by assumption) ?hr72
          case hy72 => (first | exact Or.inl ⟨by rfl, by intro w9 _; first | (go_simp; done) | (go_simp; with_reducible rfl)⟩ | (refine Or.inr ⟨by rfl, ?_⟩; rfl))
          (try simp only [Act.put, List.setIfInBounds_toArray, List.set_cons_zero, List.set_cons_succ])
          refine' wpAnyH_take (i := 31) (v := _) (by (conv => lhs; simp only [List.getElem?_toArray, List.getElem?_cons_zero, List.getElem?_cons_succ]); try exact rfl) (by kernel_rfl) (by kernel_rfl) (by kernel_rfl) (fun _ _ _ h => h) ?hy73 (by assumption) ?hr73
          case hy73 => (first | exact Or.inl ⟨by rfl, by intro w9 _; first | (go_simp; done) | (go_simp; with_reducible rfl)⟩ | (refine Or.inr ⟨by rfl, ?_⟩; rfl))
          (try simp only [Act.put, List.setIfInBounds_toArray, List.set_cons_zero, List.set_cons_succ])
          refine' wpAnyH_take (i := 32) (v := _) (by (conv => lhs; simp only [List.getElem?_toArray, List.getElem?_cons_zero, List.getElem?_cons_succ]); try exact rfl) (by kernel_rfl) (by kernel_rfl) (by kernel_rfl) (fun _ _ _ h => h) ?hy74 (by assumption) ?hr74
          case hy74 => (first | exact Or.inl ⟨by rfl, by intro w9 _; first | (go_simp; done) | (go_simp; with_reducible rfl)⟩ | (refine Or.inr ⟨by rfl, ?_⟩; rfl))
          (try simp only [Act.put, List.setIfInBounds_toArray, List.set_cons_zero, List.set_cons_succ])
          refine' wpAnyH_take (i := 33) (v := _) (by (conv => lhs; simp only [List.getElem?_toArray, List.getElem?_cons_zero, List.getElem?_cons_succ]); try exact rfl) (by kernel_rfl) (by kernel_rfl) (by kernel_rfl) (fun _ _ _ h => h) ?hy75 (by assumption) ?hr75
          case hy75 => (first | exact Or.inl ⟨by rfl, by intro w9 _; first | (go_simp; done) | (go_simp; with_reducible rfl)⟩ | (refine Or.inr ⟨by rfl, ?_⟩; rfl))
          (try simp only [Act.put, List.setIfInBounds_toArray, List.set_cons_zero, List.set_cons_succ])
          refine' wpAnyH_take (i := 34) (v := _) (by (conv => lhs; simp only [List.getElem?_toArray, List.getElem?_cons_zero, List.getElem?_cons_succ]); try exact rfl) (by kernel_rfl) (by kernel_rfl) (by kernel_rfl) (fun _ _ _ h => h) ?hy76 (by assumption) ?hr76
          case hy76 => (first | (refine Or.inr ⟨by rfl, ?_⟩; rfl) | (refine' yields_sload1 ?x76a 22 _ ?x76b ?x76c ?x76d _ ?x76e ?x76f _ ?x76g; (case x76a => rfl); (case x76b => rfl); (case x76c => rfl); (case x76d => (repeat (first | with_reducible exact List.mem_cons_self | with_reducible apply List.mem_cons_of_mem)) <;> fail); (case x76e => exact Try.underlying22); (case x76f => rfl); (case x76g => exact (by (conv => lhs; simp only [List.getElem?_cons_succ, List.getElem?_cons_zero]); try exact rfl))))
          (try simp only [Act.put, List.setIfInBounds_toArray, List.set_cons_zero, List.set_cons_succ])
          refine' wpAnyH_take (i := 35) (v := _) (by (conv => lhs; simp only [List.getElem?_toArray, List.getElem?_cons_zero, List.getElem?_cons_succ]); try exact rfl) (by kernel_rfl) (by kernel_rfl) (by kernel_rfl) (fun _ _ _ h => h) ?hy77 (by assumption) ?hr77
          case hy77 => (first | exact Or.inl ⟨by rfl, by intro w9 _; first | (go_simp; done) | (go_simp; with_reducible rfl)⟩ | (refine Or.inr ⟨by rfl, ?_⟩; rfl))
          (try simp only [Act.put, List.setIfInBounds_toArray, List.set_cons_zero, List.set_cons_succ])
          refine' wpAnyH_take (i := 36) (v := _) (by (conv => lhs; simp only [List.getElem?_toArray, List.getElem?_cons_zero, List.getElem?_cons_succ]); try exact rfl) (by kernel_rfl) (by kernel_rfl) (by kernel_rfl) (fun _ _ _ h => h) ?hy78 (by assumption) ?hr78
          case hy78 => (first | exact Or.inl ⟨by rfl, by intro w9 _; first | (go_simp; done) | (go_simp; with_reducible rfl)⟩ | (refine Or.inr ⟨by rfl, ?_⟩; rfl))
          (try simp only [Act.put, List.setIfInBounds_toArray, List.set_cons_zero, List.set_cons_succ])
          refine' wpAnyH_take (i := 37) (v := _) (by (conv => lhs; simp only [List.getElem?_toArray, List.getElem?_cons_zero, List.getElem?_cons_succ]); try exact rfl) (by kernel_rfl) (by kernel_rfl) (by kernel_rfl) (fun _ _ _ h => h) ?hy79 (by assumption) ?hr79
          case hy79 => (first | exact Or.inl ⟨by rfl, by intro w9 _; first | (go_simp; done) | (go_simp; with_reducible rfl)⟩ | (refine Or.inr ⟨by rfl, ?_⟩; rfl))
          (try simp only [Act.put, List.setIfInBounds_toArray, List.set_cons_zero, List.set_cons_succ])
          refine' wpAnyH_take (i := 38) (v := _) (by (conv => lhs; simp only [List.getElem?_toArray, List.getElem?_cons_zero, List.getElem?_cons_succ]); try exact rfl) (by kernel_rfl) (by kernel_rfl) (by kernel_rfl) (fun _ _ _ h => h) ?hy80 (by assumption) ?hr80
          case hy80 => first | (refine' yields_cell (v := .int .i64 x.ver) ?ta 3 _ ?tb ?tc ?td _ ?te ?tf; (case ta => rfl); (case tb => rfl); (case tc => rfl); (case td => exact fun W hW => (G1.out.fr hW.frame).at_ 6 _ rfl); (case te => exact Try.underlying3); (case tf => rfl)) | (refine Or.inr ⟨by rfl, ?_⟩; rfl)
          (try simp only [Act.put, List.setIfInBounds_toArray, List.set_cons_zero, List.set_cons_succ])
          refine' wpAnyH_take (i := 39) (v := _) (by (conv => lhs; simp only [List.getElem?_toArray, List.getElem?_cons_zero, List.getElem?_cons_succ]); try exact rfl) (by kernel_rfl) (by kernel_rfl) (by kernel_rfl) (fun _ _ _ h => h) ?hy81 (by assumption) ?hr81
          case hy81 => (first | exact Or.inl ⟨by rfl, by intro w9 _; first | (go_simp; done) | (go_simp; with_reducible rfl)⟩ | (refine Or.inr ⟨by rfl, ?_⟩; rfl))
          (try simp only [Act.put, List.setIfInBounds_toArray, List.set_cons_zero, List.set_cons_succ])
          refine' wpAnyH_take (i := 40) (v := _) (by (conv => lhs; simp only [List.getElem?_toArray, List.getElem?_cons_zero, List.getElem?_cons_succ]); try exact rfl) (by kernel_rfl) (by kernel_rfl) (by kernel_rfl) (fun _ _ _ h => h) ?hy82 (by assumption) ?hr82
          case hy82 => (first | (refine Or.inr ⟨by rfl, ?_⟩; rfl) | (refine' yields_sload1 ?x82a 3 _ ?x82b ?x82c ?x82d _ ?x82e ?x82f _ ?x82g; (case x82a => rfl); (case x82b => rfl); (case x82c => rfl); (case x82d => (repeat (first | with_reducible exact List.mem_cons_self | with_reducible apply List.mem_cons_of_mem)) <;> fail); (case x82e => exact Try.underlying3); (case x82f => rfl); (case x82g => exact (by (conv => lhs; simp only [List.getElem?_cons_succ, List.getElem?_cons_zero]); try exact rfl))))
          (try simp only [Act.put, List.setIfInBounds_toArray, List.set_cons_zero, List.set_cons_succ])
          refine' wpAnyH_take (i := 41) (v := _) (by (conv => lhs; simp only [List.getElem?_toArray, List.getElem?_cons_zero, List.getElem?_cons_succ]); try exact rfl) (by kernel_rfl) (by kernel_rfl) (by kernel_rfl) (fun _ _ _ h => h) ?hy83 (by assumption) ?hr83
          case hy83 => (first | exact Or.inl ⟨by rfl, by intro w9 _; first | (go_simp; done) | (go_simp; with_reducible rfl)⟩ | (refine Or.inr ⟨by rfl, ?_⟩; rfl))
          (try simp only [Act.put, List.setIfInBounds_toArray, List.set_cons_zero, List.set_cons_succ])
          refine' wpAnyH_take (i := 42) (v := _) (by (conv => lhs; simp only [List.getElem?_toArray, List.getElem?_cons_zero, List.getElem?_cons_succ]); try exact rfl) (by kernel_rfl) (by kernel_rfl) (by kernel_rfl) (fun _ _ _ h => h) ?hy84 (by assumption) ?hr84
          case hy84 => (first | exact Or.inl ⟨by rfl, by intro w9 _; first | (go_simp; done) | (go_simp; with_reducible rfl)⟩ | (refine Or.inr ⟨by rfl, ?_⟩; rfl))
          (try simp only [Act.put, List.setIfInBounds_toArray, List.set_cons_zero, List.set_cons_succ])
          refine wpAnyH_done (by kernel_rfl) ?_ _
          refine NoPanic.normal ?_
          go_wp2
          go_ret
          exact ⟨by rw [R.out]; rfl, S.frame⟩
        have tq : (x.seq != (k : Int) + 1) = false := by simpa using hq
        cases hlb : (l && b) with
        | true =>
          simp only [Bool.and_eq_true] at hlb
          obtain ⟨rfl, rfl⟩ := hlb
          have R := Lib.hid (show okSt s = false by rw [R0.out, sentOk_bad (s := s) (k := k) HIN.out (by rw [HAT.out]; simp [pkAtOk, O1.out, hq])]; simp)
          clear hq
          go_wp2
          have S0 := (Sep.only1 (a1 := aBox gS _ _ _) S (by (repeat (first | with_reducible exact Del.head _ _ | with_reducible apply Del.tail)) <;> fail))
          refine wp_region_noPanic ?_
          refine wp_region_held_drew (S := Sep _ _ _) (by kernel_rfl) S0.drew (fun _ => ?_)
          replace S := S.drew
          clear S0
          refine' wpAnyH_take (i := 0) (v := _) (by (conv => lhs; simp only [List.getElem?_toArray, List.getElem?_cons_zero, List.getElem?_cons_succ]); try exact rfl) (by kernel_rfl) (by kernel_rfl) (by kernel_rfl) (fun _ _ _ h => h) ?hy85 (by assumption) ?hr85
          case hy85 => (first | exact Or.inl ⟨by rfl, by intro w9 _; first | (go_simp; done) | (go_simp; with_reducible rfl)⟩ | (refine Or.inr ⟨by rfl, ?_⟩; rfl))
          (try simp only [Act.put, List.setIfInBounds_toArray, List.set_cons_zero, List.set_cons_succ])
          refine' wpAnyH_take (i := 1) (v := _) (by (conv => lhs; simp only [List.getElem?_toArray, List.getElem?_cons_zero, List.getElem?_cons_succ]); try exact rfl) (by kernel_rfl) (by kernel_rfl) (by kernel_rfl) (fun _ _ _ h => h) ?hy86 (by assumption) ?hr86
          case hy86 => (first | (refine' yields_sload1 ?x86a 22 _ ?x86b ?x86c ?x86d _ ?x86e ?x86f _ ?x86g; (case x86a => rfl); (case x86b => rfl); (case x86c => rfl); (case x86d => (repeat (first | with_reducible exact List.mem_cons_self | with_reducible apply List.mem_cons_of_mem)) <;> fail); (case x86e => exact Try.underlying22); (case x86f => rfl); (case x86g => exact (by (conv => lhs; simp only [List.getElem?_cons_succ, List.getElem?_cons_zero]); try exact rfl))))
          (try simp only [Act.put, List.setIfInBounds_toArray, List.set_cons_zero, List.set_cons_succ])
          refine' wpAnyH_take (i := 2) (v := _) (by (conv => lhs; simp only [List.getElem?_toArray, List.getElem?_cons_zero, List.getElem?_cons_succ]); try exact rfl) (by kernel_rfl) (by kernel_rfl) (by kernel_rfl) (fun _ _ _ h => h) ?hy87 (by assumption) ?hr87
          case hy87 => (first | exact Or.inl ⟨by rfl, by intro w9 _; first | (go_simp; done) | (go_simp; with_reducible rfl)⟩ | (refine Or.inr ⟨by rfl, ?_⟩; rfl))
          (try simp only [Act.put, List.setIfInBounds_toArray, List.set_cons_zero, List.set_cons_succ])
          refine' wpAnyH_take (i := 3) (v := _) (by (conv => lhs; simp only [List.getElem?_toArray, List.getElem?_cons_zero, List.getElem?_cons_succ]); try exact rfl) (by kernel_rfl) (by kernel_rfl) (by kernel_rfl) (fun _ _ _ h => h) ?hy88 (by assumption) ?hr88
          case hy88 => (first | exact Or.inl ⟨by rfl, by intro w9 _; first | (go_simp; done) | (go_simp; with_reducible rfl)⟩ | (refine Or.inr ⟨by rfl, ?_⟩; rfl))
          (try simp only [Act.put, List.setIfInBounds_toArray, List.set_cons_zero, List.set_cons_succ])
          refine' wpAnyH_take (i := 4) (v := _) (by (conv => lhs; simp only [List.getElem?_toArray, List.getElem?_cons_zero, List.getElem?_cons_succ]); try exact rfl) (by kernel_rfl) (by kernel_rfl) (by kernel_rfl) (fun _ _ _ h => h) ?hy89 (by assumption) ?hr89
          case hy89 => first | (refine' yields_pkld (p := x) ?ta 41 _ ?tb ?tc ?td _ ?te ?tf ?tg; (case ta => rfl); (case tb => rfl); (case tc => rfl); (case td => exact fun W hW => G1.out.fr hW.frame); (case te => exact Try.underlying41); (case tf => rfl); (case tg => exact ts41))
          (try simp only [Act.put, List.setIfInBounds_toArray, List.set_cons_zero, List.set_cons_succ])
          refine wpAnyH_ready (rs := [5]) (by kernel_rfl) (by simp) ?_
          refine AllReadyH.cons (i := 5) (by (conv => lhs; simp only [List.getElem?_toArray, List.getElem?_cons_zero, List.getElem?_cons_succ]); try exact rfl) (fun K hK => ?_) AllReadyH.nil
          go_simp; (skip; go_at_call 46; (with_reducible refine (sPacketOk_l _ x).mono ?_); rintro e w9 ⟨rfl, f9⟩; rw [O1.out]; replace S := S.fr f9; clear f9)
          (first | refine hK.out _ _ (S.sub (by (repeat (first | exact List.nil_sublist _ | exact List.Sublist.refl _ | with_reducible apply List.Sublist.cons_cons | apply List.Sublist.cons)) <;> fail)) (fun _ => ?_) | (go_wp2_with fail; refine hK.out _ _ (S.sub (by (repeat (first | exact List.nil_sublist _ | exact List.Sublist.refl _ | with_reducible apply List.Sublist.cons_cons | apply List.Sublist.cons)) <;> fail)) (fun _ => ?_)))
          clear hK K
          (try simp only [Act.put, List.setIfInBounds_toArray, List.set_cons_zero, List.set_cons_succ])
          refine' wpAnyH_take (i := 6) (v := _) (by (conv => lhs; simp only [List.getElem?_toArray, List.getElem?_cons_zero, List.getElem?_cons_succ]); try exact rfl) (by kernel_rfl) (by kernel_rfl) (by kernel_rfl) (fun _ _ _ h => h) ?hy90 (by assumption) ?hr90
          case hy90 => (first | exact Or.inl ⟨by rfl, by intro w9 _; first | (go_simp; done) | (go_simp; with_reducible rfl)⟩ | (refine Or.inr ⟨by rfl, ?_⟩; rfl))
          (try simp only [Act.put, List.setIfInBounds_toArray, List.set_cons_zero, List.set_cons_succ])
          refine' wpAnyH_take (i := 7) (v := _) (by (conv => lhs; simp only [List.getElem?_toArray, List.getElem?_cons_zero, List.getElem?_cons_succ]); try exact rfl) (by kernel_rfl) (by kernel_rfl) (by kernel_rfl) (fun _ _ _ h => h) ?hy91 (by assumption) ?hr91
          case hy91 => (first | exact Or.inl ⟨by rfl, by intro w9 _; first | (go_simp; done) | (go_simp; with_reducible rfl)⟩ | (refine Or.inr ⟨by rfl, ?_⟩; rfl))
          (try simp only [Act.put, List.setIfInBounds_toArray, List.set_cons_zero, List.set_cons_succ])
          refine' wpAnyH_take (i := 8) (v := _) (by (conv => lhs; simp only [List.getElem?_toArray, List.getElem?_cons_zero, List.getElem?_cons_succ]); try exact rfl) (by kernel_rfl) (by kernel_rfl) (by kernel_rfl) (fun _ _ _ h => h) ?hy92 (by assumption) ?hr92
          case hy92 => (first | exact Or.inl ⟨by rfl, by intro w9 _; first | (go_simp; done) | (go_simp; with_reducible rfl)⟩ | (refine Or.inr ⟨by rfl, ?_⟩; rfl))
          (try simp only [Act.put, List.setIfInBounds_toArray, List.set_cons_zero, List.set_cons_succ])
          refine' wpAnyH_take (i := 9) (v := _) (by (conv => lhs; simp only [List.getElem?_toArray, List.getElem?_cons_zero, List.getElem?_cons_succ]); try exact rfl) (by kernel_rfl) (by kernel_rfl) (by kernel_rfl) (fun _ _ _ h => h) ?hy93 (by assumption) ?hr93
          case hy93 => (first | (refine Or.inr ⟨by rfl, ?_⟩; rfl) | (refine' yields_sload1 ?x93a 22 _ ?x93b ?x93c ?x93d _ ?x93e ?x93f _ ?x93g; (case x93a => rfl); (case x93b => rfl); (case x93c => rfl); (case x93d => (repeat (first | with_reducible exact List.mem_cons_self | with_reducible apply List.mem_cons_of_mem)) <;> fail); (case x93e => exact Try.underlying22); (case x93f => rfl); (case x93g => exact (by (conv => lhs; simp only [List.getElem?_cons_succ, List.getElem?_cons_zero]); try exact rfl))))
          (try simp only [Act.put, List.setIfInBounds_toArray, List.set_cons_zero, List.set_cons_succ])
          refine' wpAnyH_take (i := 10) (v := _) (by (conv => lhs; simp only [List.getElem?_toArray, List.getElem?_cons_zero, List.getElem?_cons_succ]); try exact rfl) (by kernel_rfl) (by kernel_rfl) (by kernel_rfl) (fun _ _ _ h => h) ?hy94 (by assumption) ?hr94
          case hy94 => (first | exact Or.inl ⟨by rfl, by intro w9 _; first | (go_simp; done) | (go_simp; with_reducible rfl)⟩ | (refine Or.inr ⟨by rfl, ?_⟩; rfl))
          (try simp only [Act.put, List.setIfInBounds_toArray, List.set_cons_zero, List.set_cons_succ])
          refine' wpAnyH_take (i := 11) (v := _) (by (conv => lhs; simp only [List.getElem?_toArray, List.getElem?_cons_zero, List.getElem?_cons_succ]); try exact rfl) (by kernel_rfl) (by kernel_rfl) (by kernel_rfl) (fun _ _ _ h => h) ?hy95 (by assumption) ?hr95
          case hy95 => (first | exact Or.inl ⟨by rfl, by intro w9 _; first | (go_simp; done) | (go_simp; with_reducible rfl)⟩ | (refine Or.inr ⟨by rfl, ?_⟩; rfl))
          (try simp only [Act.put, List.setIfInBounds_toArray, List.set_cons_zero, List.set_cons_succ])
          refine' wpAnyH_take (i := 12) (v := _) (by (conv => lhs; simp only [List.getElem?_toArray, List.getElem?_cons_zero, List.getElem?_cons_succ]); try exact rfl) (by kernel_rfl) (by kernel_rfl) (by kernel_rfl) (fun _ _ _ h => h) ?hy96 (by assumption) ?hr96
          case hy96 => (first | exact Or.inl ⟨by rfl, by intro w9 _; first | (go_simp; done) | (go_simp; with_reducible rfl)⟩ | (refine Or.inr ⟨by rfl, ?_⟩; rfl))
          (try simp only [Act.put, List.setIfInBounds_toArray, List.set_cons_zero, List.set_cons_succ])
          refine' wpAnyH_take (i := 13) (v := _) (by (conv => lhs; simp only [List.getElem?_toArray, List.getElem?_cons_zero, List.getElem?_cons_succ]); try exact rfl) (by kernel_rfl) (by kernel_rfl) (by kernel_rfl) (fun _ _ _ h => h) ?hy97 (by assumption) ?hr97
          case hy97 => first | (refine' yields_cell (v := .int .i64 x.seq) ?ta 3 _ ?tb ?tc ?td _ ?te ?tf; (case ta => rfl); (case tb => rfl); (case tc => rfl); (case td => exact fun W hW => (G1.out.fr hW.frame).at_ 0 _ rfl); (case te => exact Try.underlying3); (case tf => rfl)) | (refine Or.inr ⟨by rfl, ?_⟩; rfl)
          (try simp only [Act.put, List.setIfInBounds_toArray, List.set_cons_zero, List.set_cons_succ])
          refine' wpAnyH_take (i := 14) (v := _) (by (conv => lhs; simp only [List.getElem?_toArray, List.getElem?_cons_zero, List.getElem?_cons_succ]); try exact rfl) (by kernel_rfl) (by kernel_rfl) (by kernel_rfl) (fun _ _ _ h => h) ?hy98 (by assumption) ?hr98
          case hy98 => (first | exact Or.inl ⟨by rfl, by intro w9 _; first | (go_simp; done) | (go_simp; with_reducible rfl)⟩ | (refine Or.inr ⟨by rfl, ?_⟩; rfl))
          (try simp only [Act.put, List.setIfInBounds_toArray, List.set_cons_zero, List.set_cons_succ])
          refine' wpAnyH_take (i := 15) (v := _) (by (conv => lhs; simp only [List.getElem?_toArray, List.getElem?_cons_zero, List.getElem?_cons_succ]); try exact rfl) (by kernel_rfl) (by kernel_rfl) (by kernel_rfl) (fun _ _ _ h => h) ?hy99 (by assumption) ?hr99
          case hy99 => (first | exact Or.inl ⟨by rfl, by intro w9 _; first | (go_simp; done) | (go_simp; with_reducible rfl)⟩ | (refine Or.inr ⟨by rfl, ?_⟩; rfl))
          (try simp only [Act.put, List.setIfInBounds_toArray, List.set_cons_zero, List.set_cons_succ])
          refine' wpAnyH_take (i := 16) (v := _) (by (conv => lhs; simp only [List.getElem?_toArray, List.getElem?_cons_zero, List.getElem?_cons_succ]); try exact rfl) (by kernel_rfl) (by kernel_rfl) (by kernel_rfl) (fun _ _ _ h => h) ?hy100 (by assumption) ?hr100
          case hy100 => (first | exact Or.inl ⟨by rfl, by intro w9 _; first | (go_simp; done) | (go_simp; with_reducible rfl)⟩ | (refine Or.inr ⟨by rfl, ?_⟩; rfl))
          (try simp only [Act.put, List.setIfInBounds_toArray, List.set_cons_zero, List.set_cons_succ])
          refine' wpAnyH_take (i := 17) (v := _) (by (conv => lhs; simp only [List.getElem?_toArray, List.getElem?_cons_zero, List.getElem?_cons_succ]); try exact rfl) (by kernel_rfl) (by kernel_rfl) (by kernel_rfl) (fun _ _ _ h => h) ?hy101 (by assumption) ?hr101
          case hy101 => (first | exact Or.inl ⟨by rfl, by intro w9 _; first | (go_simp; done) | (go_simp; with_reducible rfl)⟩ | (refine Or.inr ⟨by rfl, ?_⟩; rfl))
          (try simp only [Act.put, List.setIfInBounds_toArray, List.set_cons_zero, List.set_cons_succ])
          refine' wpAnyH_take (i := 18) (v := _) (by (conv => lhs; simp only [List.getElem?_toArray, List.getElem?_cons_zero, List.getElem?_cons_succ]); try exact rfl) (by kernel_rfl) (by kernel_rfl) (by kernel_rfl) (fun _ _ _ h => h) ?hy102 (by assumption) ?hr102
          case hy102 => (first | exact Or.inl ⟨by rfl, by intro w9 _; first | (go_simp; done) | (go_simp; with_reducible rfl)⟩ | (refine Or.inr ⟨by rfl, ?_⟩; rfl))
          (try simp only [Act.put, List.setIfInBounds_toArray, List.set_cons_zero, List.set_cons_succ])
          refine' wpAnyH_take (i := 19) (v := _) (by (conv => lhs; simp only [List.getElem?_toArray, List.getElem?_cons_zero, List.getElem?_cons_succ]); try exact rfl) (by kernel_rfl) (by kernel_rfl) (by kernel_rfl) (fun _ _ _ h => h) ?hy103 (by assumption) ?hr103
          case hy103 => (first | exact Or.inl ⟨by rfl, by intro w9 _; first | (go_simp; done) | (go_simp; with_reducible rfl)⟩ | (refine Or.inr ⟨by rfl, ?_⟩; rfl))
          (try simp only [Act.put, List.setIfInBounds_toArray, List.set_cons_zero, List.set_cons_succ])
          refine' wpAnyH_take (i := 20) (v := _) (by (conv => lhs; simp only [List.getElem?_toArray, List.getElem?_cons_zero, List.getElem?_cons_succ]); try exact rfl) (by kernel_rfl) (by kernel_rfl) (by kernel_rfl) (fun _ _ _ h => h) ?hy104 (by assumption) ?hr104
          case hy104 => (first | (refine Or.inr ⟨by rfl, ?_⟩; rfl) | (refine' yields_sload1 ?x104a 23 _ ?x104b ?x104c ?x104d _ ?x104e ?x104f _ ?x104g; (case x104a => rfl); (case x104b => rfl); (case x104c => rfl); (case x104d => (repeat (first | with_reducible exact List.mem_cons_self | with_reducible apply List.mem_cons_of_mem)) <;> fail); (case x104e => exact Try.underlying23); (case x104f => rfl); (case x104g => exact (by (conv => lhs; simp only [List.getElem?_cons_succ, List.getElem?_cons_zero]); try exact rfl))))
          (try simp only [Act.put, List.setIfInBounds_toArray, List.set_cons_zero, List.set_cons_succ])
          refine' wpAnyH_take (i := 21) (v := _) (by (conv => lhs; simp only [List.getElem?_toArray, List.getElem?_cons_zero, List.getElem?_cons_succ]); try exact rfl) (by kernel_rfl) (by kernel_rfl) (by kernel_rfl) (fun _ _ _ h => h) ?hy105 (by assumption) ?hr105
          case hy105 => (first | exact Or.inl ⟨by rfl, by intro w9 _; first | (go_simp; done) | (go_simp; with_reducible rfl)⟩ | (refine Or.inr ⟨by rfl, ?_⟩; rfl))
          (try simp only [Act.put, List.setIfInBounds_toArray, List.set_cons_zero, List.set_cons_succ])
          refine' wpAnyH_take (i := 22) (v := _) (by (conv => lhs; simp only [List.getElem?_toArray, List.getElem?_cons_zero, List.getElem?_cons_succ]); try exact rfl) (by kernel_rfl) (by kernel_rfl) (by kernel_rfl) (fun _ _ _ h => h) ?hy106 (by assumption) ?hr106
          case hy106 => (first | exact Or.inl ⟨by rfl, by intro w9 _; first | (go_simp; done) | (go_simp; with_reducible rfl)⟩ | (refine Or.inr ⟨by rfl, ?_⟩; rfl))
          (try simp only [Act.put, List.setIfInBounds_toArray, List.set_cons_zero, List.set_cons_succ])
          refine' wpAnyH_take (i := 23) (v := _) (by (conv => lhs; simp only [List.getElem?_toArray, List.getElem?_cons_zero, List.getElem?_cons_succ]); try exact rfl) (by kernel_rfl) (by kernel_rfl) (by kernel_rfl) (fun _ _ _ h => h) ?hy107 (by assumption) ?hr107
          case hy107 => first | (refine' yields_cell (v := .bool true) ?ta 4 _ ?tb ?tc ?td _ ?te ?tf; (case ta => rfl); (case tb => rfl); (case tc => rfl); (case td => exact fun W hW => hW.frame.cell G2.out); (case te => exact Try.underlying4); (case tf => rfl)) | (refine' yields_cell (v := .bool false) ?ta 4 _ ?tb ?tc ?td _ ?te ?tf; (case ta => rfl); (case tb => rfl); (case tc => rfl); (case td => exact fun W hW => hW.frame.cell G2.out); (case te => exact Try.underlying4); (case tf => rfl)) | (refine' yields_cell (v := .bool l) ?ta 4 _ ?tb ?tc ?td _ ?te ?tf; (case ta => rfl); (case tb => rfl); (case tc => rfl); (case td => exact fun W hW => hW.frame.cell G2.out); (case te => exact Try.underlying4); (case tf => rfl)) | (refine Or.inr ⟨by rfl, ?_⟩; rfl)
          (try simp only [Act.put, List.setIfInBounds_toArray, List.set_cons_zero, List.set_cons_succ])
          refine' wpAnyH_take (i := 24) (v := _) (by (conv => lhs; simp only [List.getElem?_toArray, List.getElem?_cons_zero, List.getElem?_cons_succ]); try exact rfl) (by kernel_rfl) (by kernel_rfl) (by kernel_rfl) (fun _ _ _ h => h) ?hy108 (by assumption) ?hr108
          case hy108 => (first | exact Or.inl ⟨by rfl, by intro w9 _; first | (go_simp; done) | (go_simp; with_reducible rfl)⟩ | (refine Or.inr ⟨by rfl, ?_⟩; rfl))
          (try simp only [Act.put, List.setIfInBounds_toArray, List.set_cons_zero, List.set_cons_succ])
          refine' wpAnyH_take (i := 25) (v := _) (by (conv => lhs; simp only [List.getElem?_toArray, List.getElem?_cons_zero, List.getElem?_cons_succ]); try exact rfl) (by kernel_rfl) (by kernel_rfl) (by kernel_rfl) (fun _ _ _ h => h) ?hy109 (by assumption) ?hr109
          case hy109 => (first | exact Or.inl ⟨by rfl, by intro w9 _; first | (go_simp; done) | (go_simp; with_reducible rfl)⟩ | (refine Or.inr ⟨by rfl, ?_⟩; rfl))
          (try simp only [Act.put, List.setIfInBounds_toArray, List.set_cons_zero, List.set_cons_succ])
          refine' wpAnyH_take (i := 26) (v := _) (by (conv => lhs; simp only [List.getElem?_toArray, List.getElem?_cons_zero, List.getElem?_cons_succ]); try exact rfl) (by kernel_rfl) (by kernel_rfl) (by kernel_rfl) (fun _ _ _ h => h) ?hy110 (by assumption) ?hr110
          case hy110 => (first | (refine Or.inr ⟨by rfl, ?_⟩; rfl) | (refine' yields_sload1 ?x110a 23 _ ?x110b ?x110c ?x110d _ ?x110e ?x110f _ ?x110g; (case x110a => rfl); (case x110b => rfl); (case x110c => rfl); (case x110d => (repeat (first | with_reducible exact List.mem_cons_self | with_reducible apply List.mem_cons_of_mem)) <;> fail); (case x110e => exact Try.underlying23); (case x110f => rfl); (case x110g => exact (by (conv => lhs; simp only [List.getElem?_cons_succ, List.getElem?_cons_zero]); try exact rfl))))
          (try simp only [Act.put, List.setIfInBounds_toArray, List.set_cons_zero, List.set_cons_succ])
          refine' wpAnyH_take (i := 27) (v := _) (by (conv => lhs; simp only [List.getElem?_toArray, List.getElem?_cons_zero, List.getElem?_cons_succ]); try exact rfl) (by kernel_rfl) (by kernel_rfl) (by kernel_rfl) (fun _ _ _ h => h) ?hy111 (by assumption) ?hr111
          case hy111 => (first | exact Or.inl ⟨by rfl, by intro w9 _; first | (go_simp; done) | (go_simp; with_reducible rfl)⟩ | (refine Or.inr ⟨by rfl, ?_⟩; rfl))
          (try simp only [Act.put, List.setIfInBounds_toArray, List.set_cons_zero, List.set_cons_succ])
          refine' wpAnyH_take (i := 28) (v := _) (by (conv => lhs; simp only [List.getElem?_toArray, List.getElem?_cons_zero, List.getElem?_cons_succ]); try exact rfl) (by kernel_rfl) (by kernel_rfl) (by kernel_rfl) (fun _ _ _ h => h) ?hy112 (by assumption) ?hr112
          case hy112 => (first | exact Or.inl ⟨by rfl, by intro w9 _; first | (go_simp; done) | (go_simp; with_reducible rfl)⟩ | (refine Or.inr ⟨by rfl, ?_⟩; rfl))
          (try simp only [Act.put, List.setIfInBounds_toArray, List.set_cons_zero, List.set_cons_succ])
          refine' wpAnyH_take (i := 29) (v := _) (by (conv => lhs; simp only [List.getElem?_toArray, List.getElem?_cons_zero, List.getElem?_cons_succ]); try exact rfl) (by kernel_rfl) (by kernel_rfl) (by kernel_rfl) (fun _ _ _ h => h) ?hy113 (by assumption) ?hr113
          case hy113 => first | (refine' yields_cell (v := .bool true) ?ta 4 _ ?tb ?tc ?td _ ?te ?tf; (case ta => rfl); (case tb => rfl); (case tc => rfl); (case td => exact fun W hW => hW.frame.cell G3.out); (case te => exact Try.underlying4); (case tf => rfl)) | (refine' yields_cell (v := .bool false) ?ta 4 _ ?tb ?tc ?td _ ?te ?tf; (case ta => rfl); (case tb => rfl); (case tc => rfl); (case td => exact fun W hW => hW.frame.cell G3.out); (case te => exact Try.underlying4); (case tf => rfl)) | (refine' yields_cell (v := .bool b) ?ta 4 _ ?tb ?tc ?td _ ?te ?tf; (case ta => rfl); (case tb => rfl); (case tc => rfl); (case td => exact fun W hW => hW.frame.cell G3.out); (case te => exact Try.underlying4); (case tf => rfl)) | (refine Or.inr ⟨by rfl, ?_⟩; rfl)
          (try simp only [Act.put, List.setIfInBounds_toArray, List.set_cons_zero, List.set_cons_succ])
          refine' wpAnyH_take (i := 30) (v := _) (by (conv => lhs; simp only [List.getElem?_toArray, List.getElem?_cons_zero, List.getElem?_cons_succ]); try exact rfl) (by kernel_rfl) (by kernel_rfl) (by kernel_rfl) (fun _ _ _ h => h) ?hy114 (by assumption) ?hr114
          case hy114 => (first | exact Or.inl ⟨by rfl, by intro w9 _; first | (go_simp; done) | (go_simp; with_reducible rfl)⟩ | (refine Or.inr ⟨by rfl, ?_⟩; rfl))
          (try simp only [Act.put, List.setIfInBounds_toArray, List.set_cons_zero, List.set_cons_succ])
          refine' wpAnyH_take (i := 31) (v := _) (by (conv => lhs; simp only [List.getElem?_toArray, List.getElem?_cons_zero, List.getElem?_cons_succ]); try exact rfl) (by kernel_rfl) (by kernel_rfl) (by kernel_rfl) (fun _ _ _ h => h) ?hy115 (by assumption) ?hr115
          case hy115 => (first | exact Or.inl ⟨by rfl, by intro w9 _; first | (go_simp; done) | (go_simp; with_reducible rfl)⟩ | (refine Or.inr ⟨by rfl, ?_⟩; rfl))
          (try simp only [Act.put, List.setIfInBounds_toArray, List.set_cons_zero, List.set_cons_succ])
          refine' wpAnyH_take (i := 32) (v := _) (by (conv => lhs; simp only [List.getElem?_toArray, List.getElem?_cons_zero, List.getElem?_cons_succ]); try exact rfl) (by kernel_rfl) (by kernel_rfl) (by kernel_rfl) (fun _ _ _ h => h) ?hy116 (by assumption) ?hr116
          case hy116 => (first | exact Or.inl ⟨by rfl, by intro w9 _; first | (go_simp; done) | (go_simp; with_reducible rfl)⟩ | (refine Or.inr ⟨by rfl, ?_⟩; rfl))
          (try simp only [Act.put, List.setIfInBounds_toArray, List.set_cons_zero, List.set_cons_succ])
          refine' wpAnyH_take (i := 33) (v := _) (by (conv => lhs; simp only [List.getElem?_toArray, List.getElem?_cons_zero, List.getElem?_cons_succ]); try exact rfl) (by kernel_rfl) (by kernel_rfl) (by kernel_rfl) (fun _ _ _ h => h) ?hy117 (by assumption) ?hr117
          case hy117 => (first | exact Or.inl ⟨by rfl, by intro w9 _; first | (go_simp; done) | (go_simp; with_reducible rfl)⟩ | (refine Or.inr ⟨by rfl, ?_⟩; rfl))
          (try simp only [Act.put, List.setIfInBounds_toArray, List.set_cons_zero, List.set_cons_succ])
          refine' wpAnyH_take (i := 34) (v := _) (by (conv => lhs; simp only [List.getElem?_toArray, List.getElem?_cons_zero, List.getElem?_cons_succ]); try exact rfl) (by kernel_rfl) (by kernel_rfl) (by kernel_rfl) (fun _ _ _ h => h) ?hy118 (by assumption) ?hr118
          case hy118 => (first | (refine Or.inr ⟨by rfl, ?_⟩; rfl) | (refine' yields_sload1 ?x118a 22 _ ?x118b ?x118c ?x118d _ ?x118e ?x118f _ ?x118g; (case x118a => rfl); (case x118b => rfl); (case x118c => rfl); (case x118d => (repeat (first | with_reducible exact List.mem_cons_self | with_reducible apply List.mem_cons_of_mem)) <;> fail); (case x118e => exact Try.underlying22); (case x118f => rfl); (case x118g => exact (by (conv => lhs; simp only [List.getElem?_cons_succ, List.getElem?_cons_zero]); try exact rfl))))
          (try simp only [Act.put, List.setIfInBounds_toArray, List.set_cons_zero, List.set_cons_succ])
          refine' wpAnyH_take (i := 35) (v := _) (by (conv => lhs; simp only [List.getElem?_toArray, List.getElem?_cons_zero, List.getElem?_cons_succ]); try exact rfl) (by kernel_rfl) (by kernel_rfl) (by kernel_rfl) (fun _ _ _ h => h) ?hy119 (by assumption) ?hr119
          case hy119 => (first | exact Or.inl ⟨by rfl, by intro w9 _; first | (go_simp; done) | (go_simp; with_reducible rfl)⟩ | (refine Or.inr ⟨by rfl, ?_⟩; rfl))
          (try simp only [Act.put, List.setIfInBounds_toArray, List.set_cons_zero, List.set_cons_succ])
          refine' wpAnyH_take (i := 36) (v := _) (by (conv => lhs; simp only [List.getElem?_toArray, List.getElem?_cons_zero, List.getElem?_cons_succ]); try exact rfl) (by kernel_rfl) (by kernel_rfl) (by kernel_rfl) (fun _ _ _ h => h) ?hy120 (by assumption) ?hr120
          case hy120 => (first | exact Or.inl ⟨by rfl, by intro w9 _; first | (go_simp; done) | (go_simp; with_reducible rfl)⟩ | (refine Or.inr ⟨by rfl, ?_⟩; rfl))
          (try simp only [Act.put, List.setIfInBounds_toArray, List.set_cons_zero, List.set_cons_succ])
          refine' wpAnyH_take (i := 37) (v := _) (by (conv => lhs; simp only [List.getElem?_toArray, List.getElem?_cons_zero, List.getElem?_cons_succ]); try exact rfl) (by kernel_rfl) (by kernel_rfl) (by kernel_rfl) (fun _ _ _ h => h) ?hy121 (by assumption) ?hr121
          case hy121 => (first | exact Or.inl ⟨by rfl, by intro w9 _; first | (go_simp; done) | (go_simp; with_reducible rfl)⟩ | (refine Or.inr ⟨by rfl, ?_⟩; rfl))
          (try simp only [Act.put, List.setIfInBounds_toArray, List.set_cons_zero, List.set_cons_succ])
          refine' wpAnyH_take (i := 38) (v := _) (by (conv => lhs; simp only [List.getElem?_toArray, List.getElem?_cons_zero, List.getElem?_cons_succ]); try exact rfl) (by kernel_rfl) (by kernel_rfl) (by kernel_rfl) (fun _ _ _ h => h) ?hy122 (by assumption) ?hr122
          case hy122 => first | (refine' yields_cell (v := .int .i64 x.ver) ?ta 3 _ ?tb ?tc ?td _ ?te ?tf; (case ta => rfl); (case tb => rfl); (case tc => rfl); (case td => exact fun W hW => (G1.out.fr hW.frame).at_ 6 _ rfl); (case te => exact Try.underlying3); (case tf => rfl)) | (refine Or.inr ⟨by rfl, ?_⟩; rfl)
          (try simp only [Act.put, List.setIfInBounds_toArray, List.set_cons_zero, List.set_cons_succ])
          refine' wpAnyH_take (i := 39) (v := _) (by (conv => lhs; simp only [List.getElem?_toArray, List.getElem?_cons_zero, List.getElem?_cons_succ]); try exact rfl) (by kernel_rfl) (by kernel_rfl) (by kernel_rfl) (fun _ _ _ h => h) ?hy123 (by assumption) ?hr123
          case hy123 => (first | exact Or.inl ⟨by rfl, by intro w9 _; first | (go_simp; done) | (go_simp; with_reducible rfl)⟩ | (refine Or.inr ⟨by rfl, ?_⟩; rfl))
          (try simp only [Act.put, List.setIfInBounds_toArray, List.set_cons_zero, List.set_cons_succ])
          refine' wpAnyH_take (i := 40) (v := _) (by (conv => lhs; simp only [List.getElem?_toArray, List.getElem?_cons_zero, List.getElem?_cons_succ]); try exact rfl) (by kernel_rfl) (by kernel_rfl) (by kernel_rfl) (fun _ _ _ h => h) ?hy124 (by assumption) ?hr124
          case hy124 => (first | (refine Or.inr ⟨by rfl, ?_⟩; rfl) | (refine' yields_sload1 ?x124a 3 _ ?x124b ?x124c ?x124d _ ?x124e ?x124f _ ?x124g; (case x124a => rfl); (case x124b => rfl); (case x124c => rfl); (case x124d => (repeat (first | with_reducible exact List.mem_cons_self | with_reducible apply List.mem_cons_of_mem)) <;> fail); (case x124e => exact Try.underlying3); (case x124f => rfl); (case x124g => exact (by (conv => lhs; simp only [List.getElem?_cons_succ, List.getElem?_cons_zero]); try exact rfl))))
          (try simp only [Act.put, List.setIfInBounds_toArray, List.set_cons_zero, List.set_cons_succ])
          refine' wpAnyH_take (i := 41) (v := _) (by (conv => lhs; simp only [List.getElem?_toArray, List.getElem?_cons_zero, List.getElem?_cons_succ]); try exact rfl) (by kernel_rfl) (by kernel_rfl) (by kernel_rfl) (fun _ _ _ h => h) ?hy125 (by assumption) ?hr125
          case hy125 => (first | exact Or.inl ⟨by rfl, by intro w9 _; first | (go_simp; done) | (go_simp; with_reducible rfl)⟩ | (refine Or.inr ⟨by rfl, ?_⟩; rfl))
          (try simp only [Act.put, List.setIfInBounds_toArray, List.set_cons_zero, List.set_cons_succ])
          refine' wpAnyH_take (i := 42) (v := _) (by (conv => lhs; simp only [List.getElem?_toArray, List.getElem?_cons_zero, List.getElem?_cons_succ]); try exact rfl) (by kernel_rfl) (by kernel_rfl) (by kernel_rfl) (fun _ _ _ h => h) ?hy126 (by assumption) ?hr126
          case hy126 => (first | exact Or.inl ⟨by rfl, by intro w9 _; first | (go_simp; done) | (go_simp; with_reducible rfl)⟩ | (refine Or.inr ⟨by rfl, ?_⟩; rfl))
          (try simp only [Act.put, List.setIfInBounds_toArray, List.set_cons_zero, List.set_cons_succ])
          refine wpAnyH_done (by kernel_rfl) ?_ _
          refine NoPanic.normal ?_
          go_wp2
          go_ret
          exact ⟨by rw [R.out]; rfl, S.frame⟩
        | false =>
        by_cases hv : x.ver ≤ s.vsn
        case neg =>
          have tv : decide (s.vsn < x.ver) = true := decide_eq_true (by omega)
          have R := Lib.hid (show okSt s = false by rw [R0.out, sentOk_bad (s := s) (k := k) HIN.out (by rw [HAT.out]; simp [pkAtOk, O1.out, hv])]; simp)
          clear hq hv
          cases l with
          | false =>
            clear hlb
            go_wp2
            have S0 := (Sep.only1 (a1 := aBox gS _ _ _) S (by (repeat (first | with_reducible exact Del.head _ _ | with_reducible apply Del.tail)) <;> fail))
            refine wp_region_noPanic ?_
            refine wp_region_held_drew (S := Sep _ _ _) (by kernel_rfl) S0.drew (fun _ => ?_)
            replace S := S.drew
            clear S0
            refine' wpAnyH_take (i := 0) (v := _) (by (conv => lhs; simp only [List.getElem?_toArray, List.getElem?_cons_zero, List.getElem?_cons_succ]); try exact rfl) (by kernel_rfl) (by kernel_rfl) (by kernel_rfl) (fun _ _ _ h => h) ?hy127 (by assumption) ?hr127
            case hy127 => (first | exact Or.inl ⟨by rfl, by intro w9 _; first | (go_simp; done) | (go_simp; with_reducible rfl)⟩ | (refine Or.inr ⟨by rfl, ?_⟩; rfl))
            (try simp only [Act.put, List.setIfInBounds_toArray, List.set_cons_zero, List.set_cons_succ])
            refine' wpAnyH_take (i := 1) (v := _) (by (conv => lhs; simp only [List.getElem?_toArray, List.getElem?_cons_zero, List.getElem?_cons_succ]); try exact rfl) (by kernel_rfl) (by kernel_rfl) (by kernel_rfl) (fun _ _ _ h => h) ?hy128 (by assumption) ?hr128
            case hy128 => (first | (refine' yields_sload1 ?x128a 22 _ ?x128b ?x128c ?x128d _ ?x128e ?x128f _ ?x128g; (case x128a => rfl); (case x128b => rfl); (case x128c => rfl); (case x128d => (repeat (first | with_reducible exact List.mem_cons_self | with_reducible apply List.mem_cons_of_mem)) <;> fail); (case x128e => exact Try.underlying22); (case x128f => rfl); (case x128g => exact (by (conv => lhs; simp only [List.getElem?_cons_succ, List.getElem?_cons_zero]); try exact rfl))))
            (try simp only [Act.put, List.setIfInBounds_toArray, List.set_cons_zero, List.set_cons_succ])
            refine' wpAnyH_take (i := 2) (v := _) (by (conv => lhs; simp only [List.getElem?_toArray, List.getElem?_cons_zero, List.getElem?_cons_succ]); try exact rfl) (by kernel_rfl) (by kernel_rfl) (by kernel_rfl) (fun _ _ _ h => h) ?hy129 (by assumption) ?hr129
            case hy129 => (first | exact Or.inl ⟨by rfl, by intro w9 _; first | (go_simp; done) | (go_simp; with_reducible rfl)⟩ | (refine Or.inr ⟨by rfl, ?_⟩; rfl))
            (try simp only [Act.put, List.setIfInBounds_toArray, List.set_cons_zero, List.set_cons_succ])
            refine' wpAnyH_take (i := 3) (v := _) (by (conv => lhs; simp only [List.getElem?_toArray, List.getElem?_cons_zero, List.getElem?_cons_succ]); try exact rfl) (by kernel_rfl) (by kernel_rfl) (by kernel_rfl) (fun _ _ _ h => h) ?hy130 (by assumption) ?hr130
            case hy130 => (first | exact Or.inl ⟨by rfl, by intro w9 _; first | (go_simp; done) | (go_simp; with_reducible rfl)⟩ | (refine Or.inr ⟨by rfl, ?_⟩; rfl))
            (try simp only [Act.put, List.setIfInBounds_toArray, List.set_cons_zero, List.set_cons_succ])
            refine' wpAnyH_take (i := 4) (v := _) (by (conv => lhs; simp only [List.getElem?_toArray, List.getElem?_cons_zero, List.getElem?_cons_succ]); try exact rfl) (by kernel_rfl) (by kernel_rfl) (by kernel_rfl) (fun _ _ _ h => h) ?hy131 (by assumption) ?hr131
            case hy131 => first | (refine' yields_pkld (p := x) ?ta 41 _ ?tb ?tc ?td _ ?te ?tf ?tg; (case ta => rfl); (case tb => rfl); (case tc => rfl); (case td => exact fun W hW => G1.out.fr hW.frame); (case te => exact Try.underlying41); (case tf => rfl); (case tg => exact ts41))
            (try simp only [Act.put, List.setIfInBounds_toArray, List.set_cons_zero, List.set_cons_succ])
            refine wpAnyH_ready (rs := [5]) (by kernel_rfl) (by simp) ?_
            refine AllReadyH.cons (i := 5) (by (conv => lhs; simp only [List.getElem?_toArray, List.getElem?_cons_zero, List.getElem?_cons_succ]); try exact rfl) (fun K hK => ?_) AllReadyH.nil
            go_simp; (skip; go_at_call 46; (with_reducible refine (sPacketOk_l _ x).mono ?_); rintro e w9 ⟨rfl, f9⟩; rw [O1.out]; replace S := S.fr f9; clear f9)
            (first | refine hK.out _ _ (S.sub (by (repeat (first | exact List.nil_sublist _ | exact List.Sublist.refl _ | with_reducible apply List.Sublist.cons_cons | apply List.Sublist.cons)) <;> fail)) (fun _ => ?_) | (go_wp2_with fail; refine hK.out _ _ (S.sub (by (repeat (first | exact List.nil_sublist _ | exact List.Sublist.refl _ | with_reducible apply List.Sublist.cons_cons | apply List.Sublist.cons)) <;> fail)) (fun _ => ?_)))
            clear hK K
            (try simp only [Act.put, List.setIfInBounds_toArray, List.set_cons_zero, List.set_cons_succ])
            refine' wpAnyH_take (i := 6) (v := _) (by (conv => lhs; simp only [List.getElem?_toArray, List.getElem?_cons_zero, List.getElem?_cons_succ]); try exact rfl) (by kernel_rfl) (by kernel_rfl) (by kernel_rfl) (fun _ _ _ h => h) ?hy132 (by assumption) ?hr132
            case hy132 => (first | exact Or.inl ⟨by rfl, by intro w9 _; first | (go_simp; done) | (go_simp; with_reducible rfl)⟩ | (refine Or.inr ⟨by rfl, ?_⟩; rfl))
            (try simp only [Act.put, List.setIfInBounds_toArray, List.set_cons_zero, List.set_cons_succ])
            refine' wpAnyH_take (i := 7) (v := _) (by (conv => lhs; simp only [List.getElem?_toArray, List.getElem?_cons_zero, List.getElem?_cons_succ]); try exact rfl) (by kernel_rfl) (by kernel_rfl) (by kernel_rfl) (fun _ _ _ h => h) ?hy133 (by assumption) ?hr133
            case hy133 => (first | exact Or.inl ⟨by rfl, by intro w9 _; first | (go_simp; done) | (go_simp; with_reducible rfl)⟩ | (refine Or.inr ⟨by rfl, ?_⟩; rfl))
            (try simp only [Act.put, List.setIfInBounds_toArray, List.set_cons_zero, List.set_cons_succ])
            refine' wpAnyH_take (i := 8) (v := _) (by (conv => lhs; simp only [List.getElem?_toArray, List.getElem?_cons_zero, List.getElem?_cons_succ]); try exact rfl) (by kernel_rfl) (by kernel_rfl) (by kernel_rfl) (fun _ _ _ h => h) ?hy134 (by assumption) ?hr134
            case hy134 => (first | exact Or.inl ⟨by rfl, by intro w9 _; first | (go_simp; done) | (go_simp; with_reducible rfl)⟩ | (refine Or.inr ⟨by rfl, ?_⟩; rfl))
            (try simp only [Act.put, List.setIfInBounds_toArray, List.set_cons_zero, List.set_cons_succ])
            refine' wpAnyH_take (i := 9) (v := _) (by (conv => lhs; simp only [List.getElem?_toArray, List.getElem?_cons_zero, List.getElem?_cons_succ]); try exact rfl) (by kernel_rfl) (by kernel_rfl) (by kernel_rfl) (fun _ _ _ h => h) ?hy135 (by assumption) ?hr135
            case hy135 => (first | (refine Or.inr ⟨by rfl, ?_⟩; rfl) | (refine' yields_sload1 ?x135a 22 _ ?x135b ?x135c ?x135d _ ?x135e ?x135f _ ?x135g; (case x135a => rfl); (case x135b => rfl); (case x135c => rfl); (case x135d => (repeat (first | with_reducible exact List.mem_cons_self | with_reducible apply List.mem_cons_of_mem)) <;> fail); (case x135e => exact Try.underlying22); (case x135f => rfl); (case x135g => exact (by (conv => lhs; simp only [List.getElem?_cons_succ, List.getElem?_cons_zero]); try exact rfl))))
            (try simp only [Act.put, List.setIfInBounds_toArray, List.set_cons_zero, List.set_cons_succ])
            refine' wpAnyH_take (i := 10) (v := _) (by (conv => lhs; simp only [List.getElem?_toArray, List.getElem?_cons_zero, List.getElem?_cons_succ]); try exact rfl) (by kernel_rfl) (by kernel_rfl) (by kernel_rfl) (fun _ _ _ h => h) ?hy136 (by assumption) ?hr136
            case hy136 => (first | exact Or.inl ⟨by rfl, by intro w9 _; first | (go_simp; done) | (go_simp; with_reducible rfl)⟩ | (refine Or.inr ⟨by rfl, ?_⟩; rfl))
            (try simp only [Act.put, List.setIfInBounds_toArray, List.set_cons_zero, List.set_cons_succ])
            refine' wpAnyH_take (i := 11) (v := _) (by (conv => lhs; simp only [List.getElem?_toArray, List.getElem?_cons_zero, List.getElem?_cons_succ]); try exact rfl) (by kernel_rfl) (by kernel_rfl) (by kernel_rfl) (fun _ _ _ h => h) ?hy137 (by assumption) ?hr137
            case hy137 => (first | exact Or.inl ⟨by rfl, by intro w9 _; first | (go_simp; done) | (go_simp; with_reducible rfl)⟩ | (refine Or.inr ⟨by rfl, ?_⟩; rfl))
            (try simp only [Act.put, List.setIfInBounds_toArray, List.set_cons_zero, List.set_cons_succ])
            refine' wpAnyH_take (i := 12) (v := _) (by (conv => lhs; simp only [List.getElem?_toArray, List.getElem?_cons_zero, List.getElem?_cons_succ]); try exact rfl) (by kernel_rfl) (by kernel_rfl) (by kernel_rfl) (fun _ _ _ h => h) ?hy138 (by assumption) ?hr138
            case hy138 => (first | exact Or.inl ⟨by rfl, by intro w9 _; first | (go_simp; done) | (go_simp; with_reducible rfl)⟩ | (refine Or.inr ⟨by rfl, ?_⟩; rfl))
            (try simp only [Act.put, List.setIfInBounds_toArray, List.set_cons_zero, List.set_cons_succ])
            refine' wpAnyH_take (i := 13) (v := _) (by (conv => lhs; simp only [List.getElem?_toArray, List.getElem?_cons_zero, List.getElem?_cons_succ]); try exact rfl) (by kernel_rfl) (by kernel_rfl) (by kernel_rfl) (fun _ _ _ h => h) ?hy139 (by assumption) ?hr139
            case hy139 => first | (refine' yields_cell (v := .int .i64 x.seq) ?ta 3 _ ?tb ?tc ?td _ ?te ?tf; (case ta => rfl); (case tb => rfl); (case tc => rfl); (case td => exact fun W hW => (G1.out.fr hW.frame).at_ 0 _ rfl); (case te => exact Try.underlying3); (case tf => rfl)) | (refine Or.inr ⟨by rfl, ?_⟩; rfl)
            (try simp only [Act.put, List.setIfInBounds_toArray, List.set_cons_zero, List.set_cons_succ])
            refine' wpAnyH_take (i := 14) (v := _) (by (conv => lhs; simp only [List.getElem?_toArray, List.getElem?_cons_zero, List.getElem?_cons_succ]); try exact rfl) (by kernel_rfl) (by kernel_rfl) (by kernel_rfl) (fun _ _ _ h => h) ?hy140 (by assumption) ?hr140
            case hy140 => (first | exact Or.inl ⟨by rfl, by intro w9 _; first | (go_simp; done) | (go_simp; with_reducible rfl)⟩ | (refine Or.inr ⟨by rfl, ?_⟩; rfl))
            (try simp only [Act.put, List.setIfInBounds_toArray, List.set_cons_zero, List.set_cons_succ])
            refine' wpAnyH_take (i := 15) (v := _) (by (conv => lhs; simp only [List.getElem?_toArray, List.getElem?_cons_zero, List.getElem?_cons_succ]); try exact rfl) (by kernel_rfl) (by kernel_rfl) (by kernel_rfl) (fun _ _ _ h => h) ?hy141 (by assumption) ?hr141
            case hy141 => (first | exact Or.inl ⟨by rfl, by intro w9 _; first | (go_simp; done) | (go_simp; with_reducible rfl)⟩ | (refine Or.inr ⟨by rfl, ?_⟩; rfl))
            (try simp only [Act.put, List.setIfInBounds_toArray, List.set_cons_zero, List.set_cons_succ])
            refine' wpAnyH_take (i := 16) (v := _) (by (conv => lhs; simp only [List.getElem?_toArray, List.getElem?_cons_zero, List.getElem?_cons_succ]); try exact rfl) (by kernel_rfl) (by kernel_rfl) (by kernel_rfl) (fun _ _ _ h => h) ?hy142 (by assumption) ?hr142
            case hy142 => (first | exact Or.inl ⟨by rfl, by intro w9 _; first | (go_simp; done) | (go_simp; with_reducible rfl)⟩ | (refine Or.inr ⟨by rfl, ?_⟩; rfl))
            (try simp only [Act.put, List.setIfInBounds_toArray, List.set_cons_zero, List.set_cons_succ])
            refine' wpAnyH_take (i := 17) (v := _) (by (conv => lhs; simp only [List.getElem?_toArray, List.getElem?_cons_zero, List.getElem?_cons_succ]); try exact rfl) (by kernel_rfl) (by kernel_rfl) (by kernel_rfl) (fun _ _ _ h => h) ?hy143 (by assumption) ?hr143
            case hy143 => (first | exact Or.inl ⟨by rfl, by intro w9 _; first | (go_simp; done) | (go_simp; with_reducible rfl)⟩ | (refine Or.inr ⟨by rfl, ?_⟩; rfl))
            (try simp only [Act.put, List.setIfInBounds_toArray, List.set_cons_zero, List.set_cons_succ])
            refine' wpAnyH_take (i := 18) (v := _) (by (conv => lhs; simp only [List.getElem?_toArray, List.getElem?_cons_zero, List.getElem?_cons_succ]); try exact rfl) (by kernel_rfl) (by kernel_rfl) (by kernel_rfl) (fun _ _ _ h => h) ?hy144 (by assumption) ?hr144
            case hy144 => (first | exact Or.inl ⟨by rfl, by intro w9 _; first | (go_simp; done) | (go_simp; with_reducible rfl)⟩ | (refine Or.inr ⟨by rfl, ?_⟩; rfl))
            (try simp only [Act.put, List.setIfInBounds_toArray, List.set_cons_zero, List.set_cons_succ])
            refine' wpAnyH_take (i := 19) (v := _) (by (conv => lhs; simp only [List.getElem?_toArray, List.getElem?_cons_zero, List.getElem?_cons_succ]); try exact rfl) (by kernel_rfl) (by kernel_rfl) (by kernel_rfl) (fun _ _ _ h => h) ?hy145 (by assumption) ?hr145
            case hy145 => (first | exact Or.inl ⟨by rfl, by intro w9 _; first | (go_simp; done) | (go_simp; with_reducible rfl)⟩ | (refine Or.inr ⟨by rfl, ?_⟩; rfl))
            (try simp only [Act.put, List.setIfInBounds_toArray, List.set_cons_zero, List.set_cons_succ])
            refine' wpAnyH_take (i := 20) (v := _) (by (conv => lhs; simp only [List.getElem?_toArray, List.getElem?_cons_zero, List.getElem?_cons_succ]); try exact rfl) (by kernel_rfl) (by kernel_rfl) (by kernel_rfl) (fun _ _ _ h => h) ?hy146 (by assumption) ?hr146
            case hy146 => (first | (refine Or.inr ⟨by rfl, ?_⟩; rfl) | (refine' yields_sload1 ?x146a 23 _ ?x146b ?x146c ?x146d _ ?x146e ?x146f _ ?x146g; (case x146a => rfl); (case x146b => rfl); (case x146c => rfl); (case x146d => (repeat (first | with_reducible exact List.mem_cons_self | with_reducible apply List.mem_cons_of_mem)) <;> fail); (case x146e => exact Try.underlying23); (case x146f => rfl); (case x146g => exact (by (conv => lhs; simp only [List.getElem?_cons_succ, List.getElem?_cons_zero]); try exact rfl))))
            (try simp only [Act.put, List.setIfInBounds_toArray, List.set_cons_zero, List.set_cons_succ])
            refine' wpAnyH_take (i := 21) (v := _) (by (conv => lhs; simp only [List.getElem?_toArray, List.getElem?_cons_zero, List.getElem?_cons_succ]); try exact rfl) (by kernel_rfl) (by kernel_rfl) (by kernel_rfl) (fun _ _ _ h => h) ?hy147 (by assumption) ?hr147
            case hy147 => (first | exact Or.inl ⟨by rfl, by intro w9 _; first | (go_simp; done) | (go_simp; with_reducible rfl)⟩ | (refine Or.inr ⟨by rfl, ?_⟩; rfl))
            (try simp only [Act.put, List.setIfInBounds_toArray, List.set_cons_zero, List.set_cons_succ])
            refine' wpAnyH_take (i := 22) (v := _) (by (conv => lhs; simp only [List.getElem?_toArray, List.getElem?_cons_zero, List.getElem?_cons_succ]); try exact rfl) (by kernel_rfl) (by kernel_rfl) (by kernel_rfl) (fun _ _ _ h => h) ?hy148 (by assumption) ?hr148
            case hy148 => (first | exact Or.inl ⟨by rfl, by intro w9 _; first | (go_simp; done) | (go_simp; with_reducible rfl)⟩ | (refine Or.inr ⟨by rfl, ?_⟩; rfl))
            (try simp only [Act.put, List.setIfInBounds_toArray, List.set_cons_zero, List.set_cons_succ])
            refine' wpAnyH_take (i := 23) (v := _) (by (conv => lhs; simp only [List.getElem?_toArray, List.getElem?_cons_zero, List.getElem?_cons_succ]); try exact rfl) (by kernel_rfl) (by kernel_rfl) (by kernel_rfl) (fun _ _ _ h => h) ?hy149 (by assumption) ?hr149
            case hy149 => first | (refine' yields_cell (v := .bool true) ?ta 4 _ ?tb ?tc ?td _ ?te ?tf; (case ta => rfl); (case tb => rfl); (case tc => rfl); (case td => exact fun W hW => hW.frame.cell G2.out); (case te => exact Try.underlying4); (case tf => rfl)) | (refine' yields_cell (v := .bool false) ?ta 4 _ ?tb ?tc ?td _ ?te ?tf; (case ta => rfl); (case tb => rfl); (case tc => rfl); (case td => exact fun W hW => hW.frame.cell G2.out); (case te => exact Try.underlying4); (case tf => rfl)) | (refine' yields_cell (v := .bool l) ?ta 4 _ ?tb ?tc ?td _ ?te ?tf; (case ta => rfl); (case tb => rfl); (case tc => rfl); (case td => exact fun W hW => hW.frame.cell G2.out); (case te => exact Try.underlying4); (case tf => rfl)) | (refine Or.inr ⟨by rfl, ?_⟩; rfl)
            (try simp only [Act.put, List.setIfInBounds_toArray, List.set_cons_zero, List.set_cons_succ])
            refine' wpAnyH_take (i := 24) (v := _) (by (conv => lhs; simp only [List.getElem?_toArray, List.getElem?_cons_zero, List.getElem?_cons_succ]); try exact rfl) (by kernel_rfl) (by kernel_rfl) (by kernel_rfl) (fun _ _ _ h => h) ?hy150 (by assumption) ?hr150
            case hy150 => (first | exact Or.inl ⟨by rfl, by intro w9 _; first | (go_simp; done) | (go_simp; with_reducible rfl)⟩ | (refine Or.inr ⟨by rfl, ?_⟩; rfl))
            (try simp only [Act.put, List.setIfInBounds_toArray, List.set_cons_zero, List.set_cons_succ])
            refine' wpAnyH_take (i := 25) (v := _) (by (conv => lhs; simp only [List.getElem?_toArray, List.getElem?_cons_zero, List.getElem?_cons_succ]); try exact rfl) (by kernel_rfl) (by kernel_rfl) (by kernel_rfl) (fun _ _ _ h => h) ?hy151 (by assumption) ?hr151
            case hy151 => (first | exact Or.inl ⟨by rfl, by intro w9 _; first | (go_simp; done) | (go_simp; with_reducible rfl)⟩ | (refine Or.inr ⟨by rfl, ?_⟩; rfl))
            (try simp only [Act.put, List.setIfInBounds_toArray, List.set_cons_zero, List.set_cons_succ])
            refine' wpAnyH_take (i := 26) (v := _) (by (conv => lhs; simp only [List.getElem?_toArray, List.getElem?_cons_zero, List.getElem?_cons_succ]); try exact rfl) (by kernel_rfl) (by kernel_rfl) (by kernel_rfl) (fun _ _ _ h => h) ?hy152 (by assumption) ?hr152
            case hy152 => (first | (refine Or.inr ⟨by rfl, ?_⟩; rfl) | (refine' yields_sload1 ?x152a 23 _ ?x152b ?x152c ?x152d _ ?x152e ?x152f _ ?x152g; (case x152a => rfl); (case x152b => rfl); (case x152c => rfl); (case x152d => (repeat (first | with_reducible exact List.mem_cons_self | with_reducible apply List.mem_cons_of_mem)) <;> fail); (case x152e => exact Try.underlying23); (case x152f => rfl); (case x152g => exact (by (conv => lhs; simp only [List.getElem?_cons_succ, List.getElem?_cons_zero]); try exact rfl))))
            (try simp only [Act.put, List.setIfInBounds_toArray, List.set_cons_zero, List.set_cons_succ])
            refine' wpAnyH_take (i := 27) (v := _) (by (conv => lhs; simp only [List.getElem?_toArray, List.getElem?_cons_zero, List.getElem?_cons_succ]); try exact rfl) (by kernel_rfl) (by kernel_rfl) (by kernel_rfl) (fun _ _ _ h => h) ?hy153 (by assumption) ?hr153
            case hy153 => (first | exact Or.inl ⟨by rfl, by intro w9 _; first | (go_simp; done) | (go_simp; with_reducible rfl)⟩ | (refine Or.inr ⟨by rfl, ?_⟩; rfl))
            (try simp only [Act.put, List.setIfInBounds_toArray, List.set_cons_zero, List.set_cons_succ])
            refine' wpAnyH_take (i := 28) (v := _) (by (conv => lhs; simp only [List.getElem?_toArray, List.getElem?_cons_zero, List.getElem?_cons_succ]); try exact rfl) (by kernel_rfl) (by kernel_rfl) (by kernel_rfl) (fun _ _ _ h => h) ?hy154 (by assumption) ?hr154
            case hy154 => (first | exact Or.inl ⟨by rfl, by intro w9 _; first | (go_simp; done) | (go_simp; with_reducible rfl)⟩ | (refine Or.inr ⟨by rfl, ?_⟩; rfl))
            (try simp only [Act.put, List.setIfInBounds_toArray, List.set_cons_zero, List.set_cons_succ])
            refine' wpAnyH_take (i := 29) (v := _) (by (conv => lhs; simp only [List.getElem?_toArray, List.getElem?_cons_zero, List.getElem?_cons_succ]); try exact rfl) (by kernel_rfl) (by kernel_rfl) (by kernel_rfl) (fun _ _ _ h => h) ?hy155 (by assumption) ?hr155
            case hy155 => first | (refine' yields_cell (v := .bool true) ?ta 4 _ ?tb ?tc ?td _ ?te ?tf; (case ta => rfl); (case tb => rfl); (case tc => rfl); (case td => exact fun W hW => hW.frame.cell G3.out); (case te => exact Try.underlying4); (case tf => rfl)) | (refine' yields_cell (v := .bool false) ?ta 4 _ ?tb ?tc ?td _ ?te ?tf; (case ta => rfl); (case tb => rfl); (case tc => rfl); (case td => exact fun W hW => hW.frame.cell G3.out); (case te => exact Try.underlying4); (case tf => rfl)) | (refine' yields_cell (v := .bool b) ?ta 4 _ ?tb ?tc ?td _ ?te ?tf; (case ta => rfl); (case tb => rfl); (case tc => rfl); (case td => exact fun W hW => hW.frame.cell G3.out); (case te => exact Try.underlying4); (case tf => rfl)) | (refine Or.inr ⟨by rfl, ?_⟩; rfl)
            (try simp only [Act.put, List.setIfInBounds_toArray, List.set_cons_zero, List.set_cons_succ])
            refine' wpAnyH_take (i := 30) (v := _) (by (conv => lhs; simp only [List.getElem?_toArray, List.getElem?_cons_zero, List.getElem?_cons_succ]); try exact rfl) (by kernel_rfl) (by kernel_rfl) (by kernel_rfl) (fun _ _ _ h => h) ?hy156 (by assumption) ?hr156
            case hy156 => (first | exact Or.inl ⟨by rfl, by intro w9 _; first | (go_simp; done) | (go_simp; with_reducible rfl)⟩ | (refine Or.inr ⟨by rfl, ?_⟩; rfl))
            (try simp only [Act.put, List.setIfInBounds_toArray, List.set_cons_zero, List.set_cons_succ])
            refine' wpAnyH_take (i := 31) (v := _) (by (conv => lhs; simp only [List.getElem?_toArray, List.getElem?_cons_zero, List.getElem?_cons_succ]); try exact rfl) (by kernel_rfl) (by kernel_rfl) (by kernel_rfl) (fun _ _ _ h => h) ?hy157 (by assumption) ?hr157
            case hy157 => (first | exact Or.inl ⟨by rfl, by intro w9 _; first | (go_simp; done) | (go_simp; with_reducible rfl)⟩ | (refine Or.inr ⟨by rfl, ?_⟩; rfl))
            (try simp only [Act.put, List.setIfInBounds_toArray, List.set_cons_zero, List.set_cons_succ])
            refine' wpAnyH_take (i := 32) (v := _) (by (conv => lhs; simp only [List.getElem?_toArray, List.getElem?_cons_zero, List.getElem?_cons_succ]); try exact rfl) (by kernel_rfl) (by kernel_rfl) (by kernel_rfl) (fun _ _ _ h => h) ?hy158 (by assumption) ?hr158
            case hy158 => (first | exact Or.inl ⟨by rfl, by intro w9 _; first | (go_simp; done) | (go_simp; with_reducible rfl)⟩ | (refine Or.inr ⟨by rfl, ?_⟩; rfl))
            (try simp only [Act.put, List.setIfInBounds_toArray, List.set_cons_zero, List.set_cons_succ])
            refine' wpAnyH_take (i := 33) (v := _) (by (conv => lhs; simp only [List.getElem?_toArray, List.getElem?_cons_zero, List.getElem?_cons_succ]); try exact rfl) (by kernel_rfl) (by kernel_rfl) (by kernel_rfl) (fun _ _ _ h => h) ?hy159 (by assumption) ?hr159
            case hy159 => (first | exact Or.inl ⟨by rfl, by intro w9 _; first | (go_simp; done) | (go_simp; with_reducible rfl)⟩ | (refine Or.inr ⟨by rfl, ?_⟩; rfl))
            (try simp only [Act.put, List.setIfInBounds_toArray, List.set_cons_zero, List.set_cons_succ])
            refine' wpAnyH_take (i := 34) (v := _) (by (conv => lhs; simp only [List.getElem?_toArray, List.getElem?_cons_zero, List.getElem?_cons_succ]); try exact rfl) (by kernel_rfl) (by kernel_rfl) (by kernel_rfl) (fun _ _ _ h => h) ?hy160 (by assumption) ?hr160
            case hy160 => (first | (refine Or.inr ⟨by rfl, ?_⟩; rfl) | (refine' yields_sload1 ?x160a 22 _ ?x160b ?x160c ?x160d _ ?x160e ?x160f _ ?x160g; (case x160a => rfl); (case x160b => rfl); (case x160c => rfl); (case x160d => (repeat (first | with_reducible exact List.mem_cons_self | with_reducible apply List.mem_cons_of_mem)) <;> fail); (case x160e => exact Try.underlying22); (case x160f => rfl); (case x160g => exact (by (conv => lhs; simp only [List.getElem?_cons_succ, List.getElem?_cons_zero]); try exact rfl))))
            (try simp only [Act.put, List.setIfInBounds_toArray, List.set_cons_zero, List.set_cons_succ])
            refine' wpAnyH_take (i := 35) (v := _) (by (conv => lhs; simp only [List.getElem?_toArray, List.getElem?_cons_zero, List.getElem?_cons_succ]); try exact rfl) (by kernel_rfl) (by kernel_rfl) (by kernel_rfl) (fun _ _ _ h => h) ?hy161 (by assumption) ?hr161
            case hy161 => (first | exact Or.inl ⟨by rfl, by intro w9 _; first | (go_simp; done) | (go_simp; with_reducible rfl)⟩ | (refine Or.inr ⟨by rfl, ?_⟩; rfl))
            (try simp only [Act.put, List.setIfInBounds_toArray, List.set_cons_zero, List.set_cons_succ])
            refine' wpAnyH_take (i := 36) (v := _) (by (conv => lhs; simp only [List.getElem?_toArray, List.getElem?_cons_zero, List.getElem?_cons_succ]); try exact rfl) (by kernel_rfl) (by kernel_rfl) (by kernel_rfl) (fun _ _ _ h => h) ?hy162 (by assumption) ?hr162
            case hy162 => (first | exact Or.inl ⟨by rfl, by intro w9 _; first | (go_simp; done) | (go_simp; with_reducible rfl)⟩ | (refine Or.inr ⟨by rfl, ?_⟩; rfl))
            (try simp only [Act.put, List.setIfInBounds_toArray, List.set_cons_zero, List.set_cons_succ])
            refine' wpAnyH_take (i := 37) (v := _) (by (conv => lhs; simp only [List.getElem?_toArray, List.getElem?_cons_zero, List.getElem?_cons_succ]); try exact rfl) (by kernel_rfl) (by kernel_rfl) (by kernel_rfl) (fun _ _ _ h => h) ?hy163 (by assumption) ?hr163
            case hy163 => (first | exact Or.inl ⟨by rfl, by intro w9 _; first | (go_simp; done) | (go_simp; with_reducible rfl)⟩ | (refine Or.inr ⟨by rfl, ?_⟩; rfl))
            (try simp only [Act.put, List.setIfInBounds_toArray, List.set_cons_zero, List.set_cons_succ])
            refine' wpAnyH_take (i := 38) (v := _) (by (conv => lhs; simp only [List.getElem?_toArray, List.getElem?_cons_zero, List.getElem?_cons_succ]); try exact rfl) (by kernel_rfl) (by kernel_rfl) (by kernel_rfl) (fun _ _ _ h => h) ?hy164 (by assumption) ?hr164
            case hy164 => first | (refine' yields_cell (v := .int .i64 x.ver) ?ta 3 _ ?tb ?tc ?td _ ?te ?tf; (case ta => rfl); (case tb => rfl); (case tc => rfl); (case td => exact fun W hW => (G1.out.fr hW.frame).at_ 6 _ rfl); (case te => exact Try.underlying3); (case tf => rfl)) | (refine Or.inr ⟨by rfl, ?_⟩; rfl)
            (try simp only [Act.put, List.setIfInBounds_toArray, List.set_cons_zero, List.set_cons_succ])
            refine' wpAnyH_take (i := 39) (v := _) (by (conv => lhs; simp only [List.getElem?_toArray, List.getElem?_cons_zero, List.getElem?_cons_succ]); try exact rfl) (by kernel_rfl) (by kernel_rfl) (by kernel_rfl) (fun _ _ _ h => h) ?hy165 (by assumption) ?hr165
            case hy165 => (first | exact Or.inl ⟨by rfl, by intro w9 _; first | (go_simp; done) | (go_simp; with_reducible rfl)⟩ | (refine Or.inr ⟨by rfl, ?_⟩; rfl))
            (try simp only [Act.put, List.setIfInBounds_toArray, List.set_cons_zero, List.set_cons_succ])
            refine' wpAnyH_take (i := 40) (v := _) (by (conv => lhs; simp only [List.getElem?_toArray, List.getElem?_cons_zero, List.getElem?_cons_succ]); try exact rfl) (by kernel_rfl) (by kernel_rfl) (by kernel_rfl) (fun _ _ _ h => h) ?hy166 (by assumption) ?hr166
            case hy166 => (first | (refine Or.inr ⟨by rfl, ?_⟩; rfl) | (refine' yields_sload1 ?x166a 3 _ ?x166b ?x166c ?x166d _ ?x166e ?x166f _ ?x166g; (case x166a => rfl); (case x166b => rfl); (case x166c => rfl); (case x166d => (repeat (first | with_reducible exact List.mem_cons_self | with_reducible apply List.mem_cons_of_mem)) <;> fail); (case x166e => exact Try.underlying3); (case x166f => rfl); (case x166g => exact (by (conv => lhs; simp only [List.getElem?_cons_succ, List.getElem?_cons_zero]); try exact rfl))))
            (try simp only [Act.put, List.setIfInBounds_toArray, List.set_cons_zero, List.set_cons_succ])
            refine' wpAnyH_take (i := 41) (v := _) (by (conv => lhs; simp only [List.getElem?_toArray, List.getElem?_cons_zero, List.getElem?_cons_succ]); try exact rfl) (by kernel_rfl) (by kernel_rfl) (by kernel_rfl) (fun _ _ _ h => h) ?hy167 (by assumption) ?hr167
            case hy167 => (first | exact Or.inl ⟨by rfl, by intro w9 _; first | (go_simp; done) | (go_simp; with_reducible rfl)⟩ | (refine Or.inr ⟨by rfl, ?_⟩; rfl))
            (try simp only [Act.put, List.setIfInBounds_toArray, List.set_cons_zero, List.set_cons_succ])
            refine' wpAnyH_take (i := 42) (v := _) (by (conv => lhs; simp only [List.getElem?_toArray, List.getElem?_cons_zero, List.getElem?_cons_succ]); try exact rfl) (by kernel_rfl) (by kernel_rfl) (by kernel_rfl) (fun _ _ _ h => h) ?hy168 (by assumption) ?hr168
            case hy168 => (first | exact Or.inl ⟨by rfl, by intro w9 _; first | (go_simp; done) | (go_simp; with_reducible rfl)⟩ | (refine Or.inr ⟨by rfl, ?_⟩; rfl))
            (try simp only [Act.put, List.setIfInBounds_toArray, List.set_cons_zero, List.set_cons_succ])
            refine wpAnyH_done (by kernel_rfl) ?_ _
            refine NoPanic.normal ?_
            go_wp2
            go_ret
            exact ⟨by rw [R.out]; rfl, S.frame⟩
          | true =>
            simp only [Bool.true_and] at hlb
            subst hlb
            go_wp2
            have S0 := (Sep.only1 (a1 := aBox gS _ _ _) S (by (repeat (first | with_reducible exact Del.head _ _ | with_reducible apply Del.tail)) <;> fail))
            refine wp_region_noPanic ?_
            refine wp_region_held_drew (S := Sep _ _ _) (by kernel_rfl) S0.drew (fun _ => ?_)
            replace S := S.drew
            clear S0
            refine' wpAnyH_take (i := 0) (v := _) (by (conv => lhs; simp only [List.getElem?_toArray, List.getElem?_cons_zero, List.getElem?_cons_succ]); try exact rfl) (by kernel_rfl) (by kernel_rfl) (by kernel_rfl) (fun _ _ _ h => h) ?hy169 (by assumption) ?hr169
            case hy169 => (first | exact Or.inl ⟨by rfl, by intro w9 _; first | (go_simp; done) | (go_simp; with_reducible rfl)⟩ | (refine Or.inr ⟨by rfl, ?_⟩; rfl))
            (try simp only [Act.put, List.setIfInBounds_toArray, List.set_cons_zero, List.set_cons_succ])
            refine' wpAnyH_take (i := 1) (v := _) (by (conv => lhs; simp only [List.getElem?_toArray, List.getElem?_cons_zero, List.getElem?_cons_succ]); try exact rfl) (by kernel_rfl) (by kernel_rfl) (by kernel_rfl) (fun _ _ _ h => h) ?hy170 (by assumption) ?hr170
            case hy170 => (first | (refine' yields_sload1 ?x170a 22 _ ?x170b ?x170c ?x170d _ ?x170e ?x170f _ ?x170g; (case x170a => rfl); (case x170b => rfl); (case x170c => rfl); (case x170d => (repeat (first | with_reducible exact List.mem_cons_self | with_reducible apply List.mem_cons_of_mem)) <;> fail); (case x170e => exact Try.underlying22); (case x170f => rfl); (case x170g => exact (by (conv => lhs; simp only [List.getElem?_cons_succ, List.getElem?_cons_zero]); try exact rfl))))
            (try simp only [Act.put, List.setIfInBounds_toArray, List.set_cons_zero, List.set_cons_succ])
            refine' wpAnyH_take (i := 2) (v := _) (by (conv => lhs; simp only [List.getElem?_toArray, List.getElem?_cons_zero, List.getElem?_cons_succ]); try exact rfl) (by kernel_rfl) (by kernel_rfl) (by kernel_rfl) (fun _ _ _ h => h) ?hy171 (by assumption) ?hr171
            case hy171 => (first | exact Or.inl ⟨by rfl, by intro w9 _; first | (go_simp; done) | (go_simp; with_reducible rfl)⟩ | (refine Or.inr ⟨by rfl, ?_⟩; rfl))
            (try simp only [Act.put, List.setIfInBounds_toArray, List.set_cons_zero, List.set_cons_succ])
            refine' wpAnyH_take (i := 3) (v := _) (by (conv => lhs; simp only [List.getElem?_toArray, List.getElem?_cons_zero, List.getElem?_cons_succ]); try exact rfl) (by kernel_rfl) (by kernel_rfl) (by kernel_rfl) (fun _ _ _ h => h) ?hy172 (by assumption) ?hr172
            case hy172 => (first | exact Or.inl ⟨by rfl, by intro w9 _; first | (go_simp; done) | (go_simp; with_reducible rfl)⟩ | (refine Or.inr ⟨by rfl, ?_⟩; rfl))
            (try simp only [Act.put, List.setIfInBounds_toArray, List.set_cons_zero, List.set_cons_succ])
            refine' wpAnyH_take (i := 4) (v := _) (by (conv => lhs; simp only [List.getElem?_toArray, List.getElem?_cons_zero, List.getElem?_cons_succ]); try exact rfl) (by kernel_rfl) (by kernel_rfl) (by kernel_rfl) (fun _ _ _ h => h) ?hy173 (by assumption) ?hr173
            case hy173 => first | (refine' yields_pkld (p := x) ?ta 41 _ ?tb ?tc ?td _ ?te ?tf ?tg; (case ta => rfl); (case tb => rfl); (case tc => rfl); (case td => exact fun W hW => G1.out.fr hW.frame); (case te => exact Try.underlying41); (case tf => rfl); (case tg => exact ts41))
            (try simp only [Act.put, List.setIfInBounds_toArray, List.set_cons_zero, List.set_cons_succ])
            refine wpAnyH_ready (rs := [5]) (by kernel_rfl) (by simp) ?_
            refine AllReadyH.cons (i := 5) (by (conv => lhs; simp only [List.getElem?_toArray, List.getElem?_cons_zero, List.getElem?_cons_succ]); try exact rfl) (fun K hK => ?_) AllReadyH.nil
            go_simp; (skip; go_at_call 46; (with_reducible refine (sPacketOk_l _ x).mono ?_); rintro e w9 ⟨rfl, f9⟩; rw [O1.out]; replace S := S.fr f9; clear f9)
            (first | refine hK.out _ _ (S.sub (by (repeat (first | exact List.nil_sublist _ | exact List.Sublist.refl _ | with_reducible apply List.Sublist.cons_cons | apply List.Sublist.cons)) <;> fail)) (fun _ => ?_) | (go_wp2_with fail; refine hK.out _ _ (S.sub (by (repeat (first | exact List.nil_sublist _ | exact List.Sublist.refl _ | with_reducible apply List.Sublist.cons_cons | apply List.Sublist.cons)) <;> fail)) (fun _ => ?_)))
            clear hK K
            (try simp only [Act.put, List.setIfInBounds_toArray, List.set_cons_zero, List.set_cons_succ])
            refine' wpAnyH_take (i := 6) (v := _) (by (conv => lhs; simp only [List.getElem?_toArray, List.getElem?_cons_zero, List.getElem?_cons_succ]); try exact rfl) (by kernel_rfl) (by kernel_rfl) (by kernel_rfl) (fun _ _ _ h => h) ?hy174 (by assumption) ?hr174
            case hy174 => (first | exact Or.inl ⟨by rfl, by intro w9 _; first | (go_simp; done) | (go_simp; with_reducible rfl)⟩ | (refine Or.inr ⟨by rfl, ?_⟩; rfl))
            (try simp only [Act.put, List.setIfInBounds_toArray, List.set_cons_zero, List.set_cons_succ])
            refine' wpAnyH_take (i := 7) (v := _) (by (conv => lhs; simp only [List.getElem?_toArray, List.getElem?_cons_zero, List.getElem?_cons_succ]); try exact rfl) (by kernel_rfl) (by kernel_rfl) (by kernel_rfl) (fun _ _ _ h => h) ?hy175 (by assumption) ?hr175
            case hy175 => (first | exact Or.inl ⟨by rfl, by intro w9 _; first | (go_simp; done) | (go_simp; with_reducible rfl)⟩ | (refine Or.inr ⟨by rfl, ?_⟩; rfl))
            (try simp only [Act.put, List.setIfInBounds_toArray, List.set_cons_zero, List.set_cons_succ])
            refine' wpAnyH_take (i := 8) (v := _) (by (conv => lhs; simp only [List.getElem?_toArray, List.getElem?_cons_zero, List.getElem?_cons_succ]); try exact rfl) (by kernel_rfl) (by kernel_rfl) (by kernel_rfl) (fun _ _ _ h => h) ?hy176 (by assumption) ?hr176
            case hy176 => (first | exact Or.inl ⟨by rfl, by intro w9 _; first | (go_simp; done) | (go_simp; with_reducible rfl)⟩ | (refine Or.inr ⟨by rfl, ?_⟩; rfl))
            (try simp only [Act.put, List.setIfInBounds_toArray, List.set_cons_zero, List.set_cons_succ])
            refine' wpAnyH_take (i := 9) (v := _) (by (conv => lhs; simp only [List.getElem?_toArray, List.getElem?_cons_zero, List.getElem?_cons_succ]); try exact rfl) (by kernel_rfl) (by kernel_rfl) (by kernel_rfl) (fun _ _ _ h => h) ?hy177 (by assumption) ?hr177
            case hy177 => (first | (refine Or.inr ⟨by rfl, ?_⟩; rfl) | (refine' yields_sload1 ?x177a 22 _ ?x177b ?x177c ?x177d _ ?x177e ?x177f _ ?x177g; (case x177a => rfl); (case x177b => rfl); (case x177c => rfl); (case x177d => (repeat (first | with_reducible exact List.mem_cons_self | with_reducible apply List.mem_cons_of_mem)) <;> fail); (case x177e => exact Try.underlying22); (case x177f => rfl); (case x177g => exact (by (conv => lhs; simp only [List.getElem?_cons_succ, List.getElem?_cons_zero]); try exact rfl))))
            (try simp only [Act.put, List.setIfInBounds_toArray, List.set_cons_zero, List.set_cons_succ])
            refine' wpAnyH_take (i := 10) (v := _) (by (conv => lhs; simp only [List.getElem?_toArray, List.getElem?_cons_zero, List.getElem?_cons_succ]); try exact rfl) (by kernel_rfl) (by kernel_rfl) (by kernel_rfl) (fun _ _ _ h => h) ?hy178 (by assumption) ?hr178
            case hy178 => (first | exact Or.inl ⟨by rfl, by intro w9 _; first | (go_simp; done) | (go_simp; with_reducible rfl)⟩ | (refine Or.inr ⟨by rfl, ?_⟩; rfl))
            (try simp only [Act.put, List.setIfInBounds_toArray, List.set_cons_zero, List.set_cons_succ])
            refine' wpAnyH_take (i := 11) (v := _) (by (conv => lhs; simp only [List.getElem?_toArray, List.getElem?_cons_zero, List.getElem?_cons_succ]); try exact rfl) (by kernel_rfl) (by kernel_rfl) (by kernel_rfl) (fun _ _ _ h => h) ?hy179 (by assumption) ?hr179
            case hy179 => (first | exact Or.inl ⟨by rfl, by intro w9 _; first | (go_simp; done) | (go_simp; with_reducible rfl)⟩ | (refine Or.inr ⟨by rfl, ?_⟩; rfl))
            (try simp only [Act.put, List.setIfInBounds_toArray, List.set_cons_zero, List.set_cons_succ])
            refine' wpAnyH_take (i := 12) (v := _) (by (conv => lhs; simp only [List.getElem?_toArray, List.getElem?_cons_zero, List.getElem?_cons_succ]); try exact rfl) (by kernel_rfl) (by kernel_rfl) (by kernel_rfl) (fun _ _ _ h => h) ?hy180 (by assumption) ?hr180
            case hy180 => (first | exact Or.inl ⟨by rfl, by intro w9 _; first | (go_simp; done) | (go_simp; with_reducible rfl)⟩ | (refine Or.inr ⟨by rfl, ?_⟩; rfl))
            (try simp only [Act.put, List.setIfInBounds_toArray, List.set_cons_zero, List.set_cons_succ])
            refine' wpAnyH_take (i := 13) (v := _) (by (conv => lhs; simp only [List.getElem?_toArray, List.getElem?_cons_zero, List.getElem?_cons_succ]); try exact rfl) (by kernel_rfl) (by kernel_rfl) (by kernel_rfl) (fun _ _ _ h => h) ?hy181 (by assumption) ?hr181
            case hy181 => first | (refine' yields_cell (v := .int .i64 x.seq) ?ta 3 _ ?tb ?tc ?td _ ?te ?tf; (case ta => rfl); (case tb => rfl); (case tc => rfl); (case td => exact fun W hW => (G1.out.fr hW.frame).at_ 0 _ rfl); (case te => exact Try.underlying3); (case tf => rfl)) | (refine Or.inr ⟨by rfl, ?_⟩; rfl)
            (try simp only [Act.put, List.setIfInBounds_toArray, List.set_cons_zero, List.set_cons_succ])
            refine' wpAnyH_take (i := 14) (v := _) (by (conv => lhs; simp only [List.getElem?_toArray, List.getElem?_cons_zero, List.getElem?_cons_succ]); try exact rfl) (by kernel_rfl) (by kernel_rfl) (by kernel_rfl) (fun _ _ _ h => h) ?hy182 (by assumption) ?hr182
            case hy182 => (first | exact Or.inl ⟨by rfl, by intro w9 _; first | (go_simp; done) | (go_simp; with_reducible rfl)⟩ | (refine Or.inr ⟨by rfl, ?_⟩; rfl))
            (try simp only [Act.put, List.setIfInBounds_toArray, List.set_cons_zero, List.set_cons_succ])
            refine' wpAnyH_take (i := 15) (v := _) (by (conv => lhs; simp only [List.getElem?_toArray, List.getElem?_cons_zero, List.getElem?_cons_succ]); try exact rfl) (by kernel_rfl) (by kernel_rfl) (by kernel_rfl) (fun _ _ _ h => h) ?hy183 (by assumption) ?hr183
            case hy183 => (first | exact Or.inl ⟨by rfl, by intro w9 _; first | (go_simp; done) | (go_simp; with_reducible rfl)⟩ | (refine Or.inr ⟨by rfl, ?_⟩; rfl))
            (try simp only [Act.put, List.setIfInBounds_toArray, List.set_cons_zero, List.set_cons_succ])
            refine' wpAnyH_take (i := 16) (v := _) (by (conv => lhs; simp only [List.getElem?_toArray, List.getElem?_cons_zero, List.getElem?_cons_succ]); try exact rfl) (by kernel_rfl) (by kernel_rfl) (by kernel_rfl) (fun _ _ _ h => h) ?hy184 (by assumption) ?hr184
            case hy184 => (first | exact Or.inl ⟨by rfl, by intro w9 _; first | (go_simp; done) | (go_simp; with_reducible rfl)⟩ | (refine Or.inr ⟨by rfl, ?_⟩; rfl))
            (try simp only [Act.put, List.setIfInBounds_toArray, List.set_cons_zero, List.set_cons_succ])
            refine' wpAnyH_take (i := 17) (v := _) (by (conv => lhs; simp only [List.getElem?_toArray, List.getElem?_cons_zero, List.getElem?_cons_succ]); try exact rfl) (by kernel_rfl) (by kernel_rfl) (by kernel_rfl) (fun _ _ _ h => h) ?hy185 (by assumption) ?hr185
            case hy185 => (first | exact Or.inl ⟨by rfl, by intro w9 _; first | (go_simp; done) | (go_simp; with_reducible rfl)⟩ | (refine Or.inr ⟨by rfl, ?_⟩; rfl))
            (try simp only [Act.put, List.setIfInBounds_toArray, List.set_cons_zero, List.set_cons_succ])
            refine' wpAnyH_take (i := 18) (v := _) (by (conv => lhs; simp only [List.getElem?_toArray, List.getElem?_cons_zero, List.getElem?_cons_succ]); try exact rfl) (by kernel_rfl) (by kernel_rfl) (by kernel_rfl) (fun _ _ _ h => h) ?hy186 (by assumption) ?hr186
            case hy186 => (first | exact Or.inl ⟨by rfl, by intro w9 _; first | (go_simp; done) | (go_simp; with_reducible rfl)⟩ | (refine Or.inr ⟨by rfl, ?_⟩; rfl))
            (try simp only [Act.put, List.setIfInBounds_toArray, List.set_cons_zero, List.set_cons_succ])
            refine' wpAnyH_take (i := 19) (v := _) (by (conv => lhs; simp only [List.getElem?_toArray, List.getElem?_cons_zero, List.getElem?_cons_succ]); try exact rfl) (by kernel_rfl) (by kernel_rfl) (by kernel_rfl) (fun _ _ _ h => h) ?hy187 (by assumption) ?hr187
            case hy187 => (first | exact Or.inl ⟨by rfl, by intro w9 _; first | (go_simp; done) | (go_simp; with_reducible rfl)⟩ | (refine Or.inr ⟨by rfl, ?_⟩; rfl))
            (try simp only [Act.put, List.setIfInBounds_toArray, List.set_cons_zero, List.set_cons_succ])
            refine' wpAnyH_take (i := 20) (v := _) (by (conv => lhs; simp only [List.getElem?_toArray, List.getElem?_cons_zero, List.getElem?_cons_succ]); try exact rfl) (by kernel_rfl) (by kernel_rfl) (by kernel_rfl) (fun _ _ _ h => h) ?hy188 (by assumption) ?hr188
            case hy188 => (first | (refine Or.inr ⟨by rfl, ?_⟩; rfl) | (refine' yields_sload1 ?x188a 23 _ ?x188b ?x188c ?x188d _ ?x188e ?x188f _ ?x188g; (case x188a => rfl); (case x188b => rfl); (case x188c => rfl); (case x188d => (repeat (first | with_reducible exact List.mem_cons_self | with_reducible apply List.mem_cons_of_mem)) <;> fail); (case x188e => exact Try.underlying23); (case x188f => rfl); (case x188g => exact (by (conv => lhs; simp only [List.getElem?_cons_succ, List.getElem?_cons_zero]); try exact rfl))))
            (try simp only [Act.put, List.setIfInBounds_toArray, List.set_cons_zero, List.set_cons_succ])
            refine' wpAnyH_take (i := 21) (v := _) (by (conv => lhs; simp only [List.getElem?_toArray, List.getElem?_cons_zero, List.getElem?_cons_succ]); try exact rfl) (by kernel_rfl) (by kernel_rfl) (by kernel_rfl) (fun _ _ _ h => h) ?hy189 (by assumption) ?hr189
            case hy189 => (first | exact Or.inl ⟨by rfl, by intro w9 _; first | (go_simp; done) | (go_simp; with_reducible rfl)⟩ | (refine Or.inr ⟨by rfl, ?_⟩; rfl))
            (try simp only [Act.put, List.setIfInBounds_toArray, List.set_cons_zero, List.set_cons_succ])
            refine' wpAnyH_take (i := 22) (v := _) (by (conv => lhs; simp only [List.getElem?_toArray, List.getElem?_cons_zero, List.getElem?_cons_succ]); try exact rfl) (by kernel_rfl) (by kernel_rfl) (by kernel_rfl) (fun _ _ _ h => h) ?hy190 (by assumption) ?hr190
            case hy190 => (first | exact Or.inl ⟨by rfl, by intro w9 _; first | (go_simp; done) | (go_simp; with_reducible rfl)⟩ | (refine Or.inr ⟨by rfl, ?_⟩; rfl))
            (try simp only [Act.put, List.setIfInBounds_toArray, List.set_cons_zero, List.set_cons_succ])
            refine' wpAnyH_take (i := 23) (v := _) (by (conv => lhs; simp only [List.getElem?_toArray, List.getElem?_cons_zero, List.getElem?_cons_succ]); try exact rfl) (by kernel_rfl) (by kernel_rfl) (by kernel_rfl) (fun _ _ _ h => h) ?hy191 (by assumption) ?hr191
            case hy191 => first | (refine' yields_cell (v := .bool true) ?ta 4 _ ?tb ?tc ?td _ ?te ?tf; (case ta => rfl); (case tb => rfl); (case tc => rfl); (case td => exact fun W hW => hW.frame.cell G2.out); (case te => exact Try.underlying4); (case tf => rfl)) | (refine' yields_cell (v := .bool false) ?ta 4 _ ?tb ?tc ?td _ ?te ?tf; (case ta => rfl); (case tb => rfl); (case tc => rfl); (case td => exact fun W hW => hW.frame.cell G2.out); (case te => exact Try.underlying4); (case tf => rfl)) | (refine' yields_cell (v := .bool l) ?ta 4 _ ?tb ?tc ?td _ ?te ?tf; (case ta => rfl); (case tb => rfl); (case tc => rfl); (case td => exact fun W hW => hW.frame.cell G2.out); (case te => exact Try.underlying4); (case tf => rfl)) | (refine Or.inr ⟨by rfl, ?_⟩; rfl)
            (try simp only [Act.put, List.setIfInBounds_toArray, List.set_cons_zero, List.set_cons_succ])
            refine' wpAnyH_take (i := 24) (v := _) (by (conv => lhs; simp only [List.getElem?_toArray, List.getElem?_cons_zero, List.getElem?_cons_succ]); try exact rfl) (by kernel_rfl) (by kernel_rfl) (by kernel_rfl) (fun _ _ _ h => h) ?hy192 (by assumption) ?hr192
            case hy192 => (first | exact Or.inl ⟨by rfl, by intro w9 _; first | (go_simp; done) | (go_simp; with_reducible rfl)⟩ | (refine Or.inr ⟨by rfl, ?_⟩; rfl))
            (try simp only [Act.put, List.setIfInBounds_toArray, List.set_cons_zero, List.set_cons_succ])
            refine' wpAnyH_take (i := 25) (v := _) (by (conv => lhs; simp only [List.getElem?_toArray, List.getElem?_cons_zero, List.getElem?_cons_succ]); try exact rfl) (by kernel_rfl) (by kernel_rfl) (by kernel_rfl) (fun _ _ _ h => h) ?hy193 (by assumption) ?hr193
            case hy193 => (first | exact Or.inl ⟨by rfl, by intro w9 _; first | (go_simp; done) | (go_simp; with_reducible rfl)⟩ | (refine Or.inr ⟨by rfl, ?_⟩; rfl))
            (try simp only [Act.put, List.setIfInBounds_toArray, List.set_cons_zero, List.set_cons_succ])
            refine' wpAnyH_take (i := 26) (v := _) (by (conv => lhs; simp only [List.getElem?_toArray, List.getElem?_cons_zero, List.getElem?_cons_succ]); try exact rfl) (by kernel_rfl) (by kernel_rfl) (by kernel_rfl) (fun _ _ _ h => h) ?hy194 (by assumption) ?hr194
            case hy194 => (first | (refine Or.inr ⟨by rfl, ?_⟩; rfl) | (refine' yields_sload1 ?x194a 23 _ ?x194b ?x194c ?x194d _ ?x194e ?x194f _ ?x194g; (case x194a => rfl); (case x194b => rfl); (case x194c => rfl); (case x194d => (repeat (first | with_reducible exact List.mem_cons_self | with_reducible apply List.mem_cons_of_mem)) <;> fail); (case x194e => exact Try.underlying23); (case x194f => rfl); (case x194g => exact (by (conv => lhs; simp only [List.getElem?_cons_succ, List.getElem?_cons_zero]); try exact rfl))))
            (try simp only [Act.put, List.setIfInBounds_toArray, List.set_cons_zero, List.set_cons_succ])
            refine' wpAnyH_take (i := 27) (v := _) (by (conv => lhs; simp only [List.getElem?_toArray, List.getElem?_cons_zero, List.getElem?_cons_succ]); try exact rfl) (by kernel_rfl) (by kernel_rfl) (by kernel_rfl) (fun _ _ _ h => h) ?hy195 (by assumption) ?hr195
            case hy195 => (first | exact Or.inl ⟨by rfl, by intro w9 _; first | (go_simp; done) | (go_simp; with_reducible rfl)⟩ | (refine Or.inr ⟨by rfl, ?_⟩; rfl))
            (try simp only [Act.put, List.setIfInBounds_toArray, List.set_cons_zero, List.set_cons_succ])
            refine' wpAnyH_take (i := 28) (v := _) (by (conv => lhs; simp only [List.getElem?_toArray, List.getElem?_cons_zero, List.getElem?_cons_succ]); try exact rfl) (by kernel_rfl) (by kernel_rfl) (by kernel_rfl) (fun _ _ _ h => h) ?hy196 (by assumption) ?hr196
            case hy196 => (first | exact Or.inl ⟨by rfl, by intro w9 _; first | (go_simp; done) | (go_simp; with_reducible rfl)⟩ | (refine Or.inr ⟨by rfl, ?_⟩; rfl))
            (try simp only [Act.put, List.setIfInBounds_toArray, List.set_cons_zero, List.set_cons_succ])
            refine' wpAnyH_take (i := 29) (v := _) (by (conv => lhs; simp only [List.getElem?_toArray, List.getElem?_cons_zero, List.getElem?_cons_succ]); try exact rfl) (by kernel_rfl) (by kernel_rfl) (by kernel_rfl) (fun _ _ _ h => h) ?hy197 (by assumption) ?hr197
            case hy197 => first | (refine' yields_cell (v := .bool true) ?ta 4 _ ?tb ?tc ?td _ ?te ?tf; (case ta => rfl); (case tb => rfl); (case tc => rfl); (case td => exact fun W hW => hW.frame.cell G3.out); (case te => exact Try.underlying4); (case tf => rfl)) | (refine' yields_cell (v := .bool false) ?ta 4 _ ?tb ?tc ?td _ ?te ?tf; (case ta => rfl); (case tb => rfl); (case tc => rfl); (case td => exact fun W hW => hW.frame.cell G3.out); (case te => exact Try.underlying4); (case tf => rfl)) | (refine' yields_cell (v := .bool b) ?ta 4 _ ?tb ?tc ?td _ ?te ?tf; (case ta => rfl); (case tb => rfl); (case tc => rfl); (case td => exact fun W hW => hW.frame.cell G3.out); (case te => exact Try.underlying4); (case tf => rfl)) | (refine Or.inr ⟨by rfl, ?_⟩; rfl)
            (try simp only [Act.put, List.setIfInBounds_toArray, List.set_cons_zero, List.set_cons_succ])
            refine' wpAnyH_take (i := 30) (v := _) (by (conv => lhs; simp only [List.getElem?_toArray, List.getElem?_cons_zero, List.getElem?_cons_succ]); try exact rfl) (by kernel_rfl) (by kernel_rfl) (by kernel_rfl) (fun _ _ _ h => h) ?hy198 (by assumption) ?hr198
            case hy198 => (first | exact Or.inl ⟨by rfl, by intro w9 _; first | (go_simp; done) | (go_simp; with_reducible rfl)⟩ | (refine Or.inr ⟨by rfl, ?_⟩; rfl))
            (try simp only [Act.put, List.setIfInBounds_toArray, List.set_cons_zero, List.set_cons_succ])
            refine' wpAnyH_take (i := 31) (v := _) (by (conv => lhs; simp only [List.getElem?_toArray, List.getElem?_cons_zero, List.getElem?_cons_succ]); try exact rfl) (by kernel_rfl) (by kernel_rfl) (by kernel_rfl) (fun _ _ _ h => h) ?hy199 (by assumption) ?hr199
            case hy199 => (first | exact Or.inl ⟨by rfl, by intro w9 _; first | (go_simp; done) | (go_simp; with_reducible rfl)⟩ | (refine Or.inr ⟨by rfl, ?_⟩; rfl))
            (try simp only [Act.put, List.setIfInBounds_toArray, List.set_cons_zero, List.set_cons_succ])
            refine' wpAnyH_take (i := 32) (v := _) (by (conv => lhs; simp only [List.getElem?_toArray, List.getElem?_cons_zero, List.getElem?_cons_succ]); try exact rfl) (by kernel_rfl) (by kernel_rfl) (by kernel_rfl) (fun _ _ _ h => h) ?hy200 (by assumption) ?hr200
            case hy200 => (first | exact Or.inl ⟨by rfl, by intro w9 _; first | (go_simp; done) | (go_simp; with_reducible rfl)⟩ | (refine Or.inr ⟨by rfl, ?_⟩; rfl))
            (try simp only [Act.put, List.setIfInBounds_toArray, List.set_cons_zero, List.set_cons_succ])
            refine' wpAnyH_take (i := 33) (v := _) (by (conv => lhs; simp only [List.getElem?_toArray, List.getElem?_cons_zero, List.getElem?_cons_succ]); try exact rfl) (by kernel_rfl) (by kernel_rfl) (by kernel_rfl) (fun _ _ _ h => h) ?hy201 (by assumption) ?hr201
            case hy201 => (first | exact Or.inl ⟨by rfl, by intro w9 _; first | (go_simp; done) | (go_simp; with_reducible rfl)⟩ | (refine Or.inr ⟨by rfl, ?_⟩; rfl))
            (try simp only [Act.put, List.setIfInBounds_toArray, List.set_cons_zero, List.set_cons_succ])
            refine' wpAnyH_take (i := 34) (v := _) (by (conv => lhs; simp only [List.getElem?_toArray, List.getElem?_cons_zero, List.getElem?_cons_succ]); try exact rfl) (by kernel_rfl) (by kernel_rfl) (by kernel_rfl) (fun _ _ _ h => h) ?hy202 (by assumption) ?hr202
            case hy202 => (first | (refine Or.inr ⟨by rfl, ?_⟩; rfl) | (refine' yields_sload1 ?x202a 22 _ ?x202b ?x202c ?x202d _ ?x202e ?x202f _ ?x202g; (case x202a => rfl); (case x202b => rfl); (case x202c => rfl); (case x202d => (repeat (first | with_reducible exact List.mem_cons_self | with_reducible apply List.mem_cons_of_mem)) <;> fail); (case x202e => exact Try.underlying22); (case x202f => rfl); (case x202g => exact (by (conv => lhs; simp only [List.getElem?_cons_succ, List.getElem?_cons_zero]); try exact rfl))))
            (try simp only [Act.put, List.setIfInBounds_toArray, List.set_cons_zero, List.set_cons_succ])
            refine' wpAnyH_take (i := 35) (v := _) (by (conv => lhs; simp only [List.getElem?_toArray, List.getElem?_cons_zero, List.getElem?_cons_succ]); try exact rfl) (by kernel_rfl) (by kernel_rfl) (by kernel_rfl) (fun _ _ _ h => h) ?hy203 (by assumption) ?hr203
            case hy203 => (first | exact Or.inl ⟨by rfl, by intro w9 _; first | (go_simp; done) | (go_simp; with_reducible rfl)⟩ | (refine Or.inr ⟨by rfl, ?_⟩; rfl))
            (try simp only [Act.put, List.setIfInBounds_toArray, List.set_cons_zero, List.set_cons_succ])
            refine' wpAnyH_take (i := 36) (v := _) (by (conv => lhs; simp only [List.getElem?_toArray, List.getElem?_cons_zero, List.getElem?_cons_succ]); try exact rfl) (by kernel_rfl) (by kernel_rfl) (by kernel_rfl) (fun _ _ _ h => h) ?hy204 (by assumption) ?hr204
            case hy204 => (first | exact Or.inl ⟨by rfl, by intro w9 _; first | (go_simp; done) | (go_simp; with_reducible rfl)⟩ | (refine Or.inr ⟨by rfl, ?_⟩; rfl))
            (try simp only [Act.put, List.setIfInBounds_toArray, List.set_cons_zero, List.set_cons_succ])
            refine' wpAnyH_take (i := 37) (v := _) (by (conv => lhs; simp only [List.getElem?_toArray, List.getElem?_cons_zero, List.getElem?_cons_succ]); try exact rfl) (by kernel_rfl) (by kernel_rfl) (by kernel_rfl) (fun _ _ _ h => h) ?hy205 (by assumption) ?hr205
            case hy205 => (first | exact Or.inl ⟨by rfl, by intro w9 _; first | (go_simp; done) | (go_simp; with_reducible rfl)⟩ | (refine Or.inr ⟨by rfl, ?_⟩; rfl))
            (try simp only [Act.put, List.setIfInBounds_toArray, List.set_cons_zero, List.set_cons_succ])
            refine' wpAnyH_take (i := 38) (v := _) (by (conv => lhs; simp only [List.getElem?_toArray, List.getElem?_cons_zero, List.getElem?_cons_succ]); try exact rfl) (by kernel_rfl) (by kernel_rfl) (by kernel_rfl) (fun _ _ _ h => h) ?hy206 (by assumption) ?hr206
            case hy206 => first | (refine' yields_cell (v := .int .i64 x.ver) ?ta 3 _ ?tb ?tc ?td _ ?te ?tf; (case ta => rfl); (case tb => rfl); (case tc => rfl); (case td => exact fun W hW => (G1.out.fr hW.frame).at_ 6 _ rfl); (case te => exact Try.underlying3); (case tf => rfl)) | (refine Or.inr ⟨by rfl, ?_⟩; rfl)
            (try simp only [Act.put, List.setIfInBounds_toArray, List.set_cons_zero, List.set_cons_succ])
            refine' wpAnyH_take (i := 39) (v := _) (by (conv => lhs; simp only [List.getElem?_toArray, List.getElem?_cons_zero, List.getElem?_cons_succ]); try exact rfl) (by kernel_rfl) (by kernel_rfl) (by kernel_rfl) (fun _ _ _ h => h) ?hy207 (by assumption) ?hr207
            case hy207 => (first | exact Or.inl ⟨by rfl, by intro w9 _; first | (go_simp; done) | (go_simp; with_reducible rfl)⟩ | (refine Or.inr ⟨by rfl, ?_⟩; rfl))
            (try simp only [Act.put, List.setIfInBounds_toArray, List.set_cons_zero, List.set_cons_succ])
            refine' wpAnyH_take (i := 40) (v := _) (by (conv => lhs; simp only [List.getElem?_toArray, List.getElem?_cons_zero, List.getElem?_cons_succ]); try exact rfl) (by kernel_rfl) (by kernel_rfl) (by kernel_rfl) (fun _ _ _ h => h) ?hy208 (by assumption) ?hr208
            case hy208 => (first | (refine Or.inr ⟨by rfl, ?_⟩; rfl) | (refine' yields_sload1 ?x208a 3 _ ?x208b ?x208c ?x208d _ ?x208e ?x208f _ ?x208g; (case x208a => rfl); (case x208b => rfl); (case x208c => rfl); (case x208d => (repeat (first | with_reducible exact List.mem_cons_self | with_reducible apply List.mem_cons_of_mem)) <;> fail); (case x208e => exact Try.underlying3); (case x208f => rfl); (case x208g => exact (by (conv => lhs; simp only [List.getElem?_cons_succ, List.getElem?_cons_zero]); try exact rfl))))
            (try simp only [Act.put, List.setIfInBounds_toArray, List.set_cons_zero, List.set_cons_succ])
            refine' wpAnyH_take (i := 41) (v := _) (by (conv => lhs; simp only [List.getElem?_toArray, List.getElem?_cons_zero, List.getElem?_cons_succ]); try exact rfl) (by kernel_rfl) (by kernel_rfl) (by kernel_rfl) (fun _ _ _ h => h) ?hy209 (by assumption) ?hr209
            case hy209 => (first | exact Or.inl ⟨by rfl, by intro w9 _; first | (go_simp; done) | (go_simp; with_reducible rfl)⟩ | (refine Or.inr ⟨by rfl, ?_⟩; rfl))
            (try simp only [Act.put, List.setIfInBounds_toArray, List.set_cons_zero, List.set_cons_succ])
            refine' wpAnyH_take (i := 42) (v := _) (by (conv => lhs; simp only [List.getElem?_toArray, List.getElem?_cons_zero, List.getElem?_cons_succ]); try exact rfl) (by kernel_rfl) (by kernel_rfl) (by kernel_rfl) (fun _ _ _ h => h) ?hy210 (by assumption) ?hr210
            case hy210 => (first | exact Or.inl ⟨by rfl, by intro w9 _; first | (go_simp; done) | (go_simp; with_reducible rfl)⟩ | (refine Or.inr ⟨by rfl, ?_⟩; rfl))
            (try simp only [Act.put, List.setIfInBounds_toArray, List.set_cons_zero, List.set_cons_succ])
            refine wpAnyH_done (by kernel_rfl) ?_ _
            refine NoPanic.normal ?_
            go_wp2
            go_ret
            exact ⟨by rw [R.out]; rfl, S.frame⟩
        have tv : decide (s.vsn < x.ver) = false := decide_eq_false (by omega)
        have R := Lib.hid (range_all_succ HA.out (by rw [HAT.out]; simp [pkAtOk, O1.out, hq, hv, hlb]))
        clear hq hv
        cases l with
        | false =>
          clear hlb
          go_wp2
          have S0 := (Sep.only1 (a1 := aBox gS _ _ _) S (by (repeat (first | with_reducible exact Del.head _ _ | with_reducible apply Del.tail)) <;> fail))
          refine wp_region_noPanic ?_
          refine wp_region_held_drew (S := Sep _ _ _) (by kernel_rfl) S0.drew (fun _ => ?_)
          replace S := S.drew
          clear S0
          refine' wpAnyH_take (i := 0) (v := _) (by (conv => lhs; simp only [List.getElem?_toArray, List.getElem?_cons_zero, List.getElem?_cons_succ]); try exact rfl) (by kernel_rfl) (by kernel_rfl) (by kernel_rfl) (fun _ _ _ h => h) ?hy211 (by assumption) ?hr211
          case hy211 => (first | exact Or.inl ⟨by rfl, by intro w9 _; first | (go_simp; done) | (go_simp; with_reducible rfl)⟩ | (refine Or.inr ⟨by rfl, ?_⟩; rfl))
          (try simp only [Act.put, List.setIfInBounds_toArray, List.set_cons_zero, List.set_cons_succ])
          refine' wpAnyH_take (i := 1) (v := _) (by (conv => lhs; simp only [List.getElem?_toArray, List.getElem?_cons_zero, List.getElem?_cons_succ]); try exact rfl) (by kernel_rfl) (by kernel_rfl) (by kernel_rfl) (fun _ _ _ h => h) ?hy212 (by assumption) ?hr212
          case hy212 => (first | (refine' yields_sload1 ?x212a 22 _ ?x212b ?x212c ?x212d _ ?x212e ?x212f _ ?x212g; (case x212a => rfl); (case x212b => rfl); (case x212c => rfl); (case x212d => (repeat (first | with_reducible exact List.mem_cons_self | with_reducible apply List.mem_cons_of_mem)) <;> fail); (case x212e => exact Try.underlying22); (case x212f => rfl); (case x212g => exact (by (conv => lhs; simp only [List.getElem?_cons_succ, List.getElem?_cons_zero]); try exact rfl))))
          (try simp only [Act.put, List.setIfInBounds_toArray, List.set_cons_zero, List.set_cons_succ])
          refine' wpAnyH_take (i := 2) (v := _) (by (conv => lhs; simp only [List.getElem?_toArray, List.getElem?_cons_zero, List.getElem?_cons_succ]); try exact rfl) (by kernel_rfl) (by kernel_rfl) (by kernel_rfl) (fun _ _ _ h => h) ?hy213 (by assumption) ?hr213
          case hy213 => (first | exact Or.inl ⟨by rfl, by intro w9 _; first | (go_simp; done) | (go_simp; with_reducible rfl)⟩ | (refine Or.inr ⟨by rfl, ?_⟩; rfl))
          (try simp only [Act.put, List.setIfInBounds_toArray, List.set_cons_zero, List.set_cons_succ])
          refine' wpAnyH_take (i := 3) (v := _) (by (conv => lhs; simp only [List.getElem?_toArray, List.getElem?_cons_zero, List.getElem?_cons_succ]); try exact rfl) (by kernel_rfl) (by kernel_rfl) (by kernel_rfl) (fun _ _ _ h => h) ?hy214 (by assumption) ?hr214
          case hy214 => (first | exact Or.inl ⟨by rfl, by intro w9 _; first | (go_simp; done) | (go_simp; with_reducible rfl)⟩ | (refine Or.inr ⟨by rfl, ?_⟩; rfl))
          (try simp only [Act.put, List.setIfInBounds_toArray, List.set_cons_zero, List.set_cons_succ])
          refine' wpAnyH_take (i := 4) (v := _) (by (conv => lhs; simp only [List.getElem?_toArray, List.getElem?_cons_zero, List.getElem?_cons_succ]); try exact rfl) (by kernel_rfl) (by kernel_rfl) (by kernel_rfl) (fun _ _ _ h => h) ?hy215 (by assumption) ?hr215
          case hy215 => first | (refine' yields_pkld (p := x) ?ta 41 _ ?tb ?tc ?td _ ?te ?tf ?tg; (case ta => rfl); (case tb => rfl); (case tc => rfl); (case td => exact fun W hW => G1.out.fr hW.frame); (case te => exact Try.underlying41); (case tf => rfl); (case tg => exact ts41))
          (try simp only [Act.put, List.setIfInBounds_toArray, List.set_cons_zero, List.set_cons_succ])
          refine wpAnyH_ready (rs := [5]) (by kernel_rfl) (by simp) ?_
          refine AllReadyH.cons (i := 5) (by (conv => lhs; simp only [List.getElem?_toArray, List.getElem?_cons_zero, List.getElem?_cons_succ]); try exact rfl) (fun K hK => ?_) AllReadyH.nil
          go_simp; (skip; go_at_call 46; (with_reducible refine (sPacketOk_l _ x).mono ?_); rintro e w9 ⟨rfl, f9⟩; rw [O1.out]; replace S := S.fr f9; clear f9)
          (first | refine hK.out _ _ (S.sub (by (repeat (first | exact List.nil_sublist _ | exact List.Sublist.refl _ | with_reducible apply List.Sublist.cons_cons | apply List.Sublist.cons)) <;> fail)) (fun _ => ?_) | (go_wp2_with fail; refine hK.out _ _ (S.sub (by (repeat (first | exact List.nil_sublist _ | exact List.Sublist.refl _ | with_reducible apply List.Sublist.cons_cons | apply List.Sublist.cons)) <;> fail)) (fun _ => ?_)))
          clear hK K
          (try simp only [Act.put, List.setIfInBounds_toArray, List.set_cons_zero, List.set_cons_succ])
          refine' wpAnyH_take (i := 6) (v := _) (by (conv => lhs; simp only [List.getElem?_toArray, List.getElem?_cons_zero, List.getElem?_cons_succ]); try exact rfl) (by kernel_rfl) (by kernel_rfl) (by kernel_rfl) (fun _ _ _ h => h) ?hy216 (by assumption) ?hr216
          case hy216 => (first | exact Or.inl ⟨by rfl, by intro w9 _; first | (go_simp; done) | (go_simp; with_reducible rfl)⟩ | (refine Or.inr ⟨by rfl, ?_⟩; rfl))
          (try simp only [Act.put, List.setIfInBounds_toArray, List.set_cons_zero, List.set_cons_succ])
          refine' wpAnyH_take (i := 7) (v := _) (by (conv => lhs; simp only [List.getElem?_toArray, List.getElem?_cons_zero, List.getElem?_cons_succ]); try exact rfl) (by kernel_rfl) (by kernel_rfl) (by kernel_rfl) (fun _ _ _ h => h) ?hy217 (by assumption) ?hr217
          case hy217 => (first | exact Or.inl ⟨by rfl, by intro w9 _; first | (go_simp; done) | (go_simp; with_reducible rfl)⟩ | (refine Or.inr ⟨by rfl, ?_⟩; rfl))
          (try simp only [Act.put, List.setIfInBounds_toArray, List.set_cons_zero, List.set_cons_succ])
          refine' wpAnyH_take (i := 8) (v := _) (by (conv => lhs; simp only [List.getElem?_toArray, List.getElem?_cons_zero, List.getElem?_cons_succ]); try exact rfl) (by kernel_rfl) (by kernel_rfl) (by kernel_rfl) (fun _ _ _ h => h) ?hy218 (by assumption) ?hr218
          case hy218 => (first | exact Or.inl ⟨by rfl, by intro w9 _; first | (go_simp; done) | (go_simp; with_reducible rfl)⟩ | (refine Or.inr ⟨by rfl, ?_⟩; rfl))
          (try simp only [Act.put, List.setIfInBounds_toArray, List.set_cons_zero, List.set_cons_succ])
          refine' wpAnyH_take (i := 9) (v := _) (by (conv => lhs; simp only [List.getElem?_toArray, List.getElem?_cons_zero, List.getElem?_cons_succ]); try exact rfl) (by kernel_rfl) (by kernel_rfl) (by kernel_rfl) (fun _ _ _ h => h) ?hy219 (by assumption) ?hr219
          case hy219 => (first | (refine Or.inr ⟨by rfl, ?_⟩; rfl) | (refine' yields_sload1 ?x219a 22 _ ?x219b ?x219c ?x219d _ ?x219e ?x219f _ ?x219g; (case x219a => rfl); (case x219b => rfl); (case x219c => rfl); (case x219d => (repeat (first | with_reducible exact List.mem_cons_self | with_reducible apply List.mem_cons_of_mem)) <;> fail); (case x219e => exact Try.underlying22); (case x219f => rfl); (case x219g => exact (by (conv => lhs; simp only [List.getElem?_cons_succ, List.getElem?_cons_zero]); try exact rfl))))
          (try simp only [Act.put, List.setIfInBounds_toArray, List.set_cons_zero, List.set_cons_succ])
          refine' wpAnyH_take (i := 10) (v := _) (by (conv => lhs; simp only [List.getElem?_toArray, List.getElem?_cons_zero, List.getElem?_cons_succ]); try exact rfl) (by kernel_rfl) (by kernel_rfl) (by kernel_rfl) (fun _ _ _ h => h) ?hy220 (by assumption) ?hr220
          case hy220 => (first | exact Or.inl ⟨by rfl, by intro w9 _; first | (go_simp; done) | (go_simp; with_reducible rfl)⟩ | (refine Or.inr ⟨by rfl, ?_⟩; rfl))
          (try simp only [Act.put, List.setIfInBounds_toArray, List.set_cons_zero, List.set_cons_succ])
          refine' wpAnyH_take (i := 11) (v := _) (by (conv => lhs; simp only [List.getElem?_toArray, List.getElem?_cons_zero, List.getElem?_cons_succ]); try exact rfl) (by kernel_rfl) (by kernel_rfl) (by kernel_rfl) (fun _ _ _ h => h) ?hy221 (by assumption) ?hr221
          case hy221 => (first | exact Or.inl ⟨by rfl, by intro w9 _; first | (go_simp; done) | (go_simp; with_reducible rfl)⟩ | (refine Or.inr ⟨by rfl, ?_⟩; rfl))
          (try simp only [Act.put, List.setIfInBounds_toArray, List.set_cons_zero, List.set_cons_succ])
          refine' wpAnyH_take (i := 12) (v := _) (by (conv => lhs; simp only [List.getElem?_toArray, List.getElem?_cons_zero, List.getElem?_cons_succ]); try exact rfl) (by kernel_rfl) (by kernel_rfl) (by kernel_rfl) (fun _ _ _ h => h) ?hy222 (by assumption) ?hr222
          case hy222 => (first | exact Or.inl ⟨by rfl, by intro w9 _; first | (go_simp; done) | (go_simp; with_reducible rfl)⟩ | (refine Or.inr ⟨by rfl, ?_⟩; rfl))
          (try simp only [Act.put, List.setIfInBounds_toArray, List.set_cons_zero, List.set_cons_succ])
          refine' wpAnyH_take (i := 13) (v := _) (by (conv => lhs; simp only [List.getElem?_toArray, List.getElem?_cons_zero, List.getElem?_cons_succ]); try exact rfl) (by kernel_rfl) (by kernel_rfl) (by kernel_rfl) (fun _ _ _ h => h) ?hy223 (by assumption) ?hr223
          case hy223 => first | (refine' yields_cell (v := .int .i64 x.seq) ?ta 3 _ ?tb ?tc ?td _ ?te ?tf; (case ta => rfl); (case tb => rfl); (case tc => rfl); (case td => exact fun W hW => (G1.out.fr hW.frame).at_ 0 _ rfl); (case te => exact Try.underlying3); (case tf => rfl)) | (refine Or.inr ⟨by rfl, ?_⟩; rfl)
          (try simp only [Act.put, List.setIfInBounds_toArray, List.set_cons_zero, List.set_cons_succ])
          refine' wpAnyH_take (i := 14) (v := _) (by (conv => lhs; simp only [List.getElem?_toArray, List.getElem?_cons_zero, List.getElem?_cons_succ]); try exact rfl) (by kernel_rfl) (by kernel_rfl) (by kernel_rfl) (fun _ _ _ h => h) ?hy224 (by assumption) ?hr224
          case hy224 => (first | exact Or.inl ⟨by rfl, by intro w9 _; first | (go_simp; done) | (go_simp; with_reducible rfl)⟩ | (refine Or.inr ⟨by rfl, ?_⟩; rfl))
          (try simp only [Act.put, List.setIfInBounds_toArray, List.set_cons_zero, List.set_cons_succ])
          refine' wpAnyH_take (i := 15) (v := _) (by (conv => lhs; simp only [List.getElem?_toArray, List.getElem?_cons_zero, List.getElem?_cons_succ]); try exact rfl) (by kernel_rfl) (by kernel_rfl) (by kernel_rfl) (fun _ _ _ h => h) ?hy225 (by assumption) ?hr225
          case hy225 => (first | exact Or.inl ⟨by rfl, by intro w9 _; first | (go_simp; done) | (go_simp; with_reducible rfl)⟩ | (refine Or.inr ⟨by rfl, ?_⟩; rfl))
          (try simp only [Act.put, List.setIfInBounds_toArray, List.set_cons_zero, List.set_cons_succ])
          refine' wpAnyH_take (i := 16) (v := _) (by (conv => lhs; simp only [List.getElem?_toArray, List.getElem?_cons_zero, List.getElem?_cons_succ]); try exact rfl) (by kernel_rfl) (by kernel_rfl) (by kernel_rfl) (fun _ _ _ h => h) ?hy226 (by assumption) ?hr226
          case hy226 => (first | exact Or.inl ⟨by rfl, by intro w9 _; first | (go_simp; done) | (go_simp; with_reducible rfl)⟩ | (refine Or.inr ⟨by rfl, ?_⟩; rfl))
          (try simp only [Act.put, List.setIfInBounds_toArray, List.set_cons_zero, List.set_cons_succ])
          refine' wpAnyH_take (i := 17) (v := _) (by (conv => lhs; simp only [List.getElem?_toArray, List.getElem?_cons_zero, List.getElem?_cons_succ]); try exact rfl) (by kernel_rfl) (by kernel_rfl) (by kernel_rfl) (fun _ _ _ h => h) ?hy227 (by assumption) ?hr227
          case hy227 => (first | exact Or.inl ⟨by rfl, by intro w9 _; first | (go_simp; done) | (go_simp; with_reducible rfl)⟩ | (refine Or.inr ⟨by rfl, ?_⟩; rfl))
          (try simp only [Act.put, List.setIfInBounds_toArray, List.set_cons_zero, List.set_cons_succ])
          refine' wpAnyH_take (i := 18) (v := _) (by (conv => lhs; simp only [List.getElem?_toArray, List.getElem?_cons_zero, List.getElem?_cons_succ]); try exact rfl) (by kernel_rfl) (by kernel_rfl) (by kernel_rfl) (fun _ _ _ h => h) ?hy228 (by assumption) ?hr228
          case hy228 => (first | exact Or.inl ⟨by rfl, by intro w9 _; first | (go_simp; done) | (go_simp; with_reducible rfl)⟩ | (refine Or.inr ⟨by rfl, ?_⟩; rfl))
          (try simp only [Act.put, List.setIfInBounds_toArray, List.set_cons_zero, List.set_cons_succ])
          refine' wpAnyH_take (i := 19) (v := _) (by (conv => lhs; simp only [List.getElem?_toArray, List.getElem?_cons_zero, List.getElem?_cons_succ]); try exact rfl) (by kernel_rfl) (by kernel_rfl) (by kernel_rfl) (fun _ _ _ h => h) ?hy229 (by assumption) ?hr229
          case hy229 => (first | exact Or.inl ⟨by rfl, by intro w9 _; first | (go_simp; done) | (go_simp; with_reducible rfl)⟩ | (refine Or.inr ⟨by rfl, ?_⟩; rfl))
          (try simp only [Act.put, List.setIfInBounds_toArray, List.set_cons_zero, List.set_cons_succ])
          refine' wpAnyH_take (i := 20) (v := _) (by (conv => lhs; simp only [List.getElem?_toArray, List.getElem?_cons_zero, List.getElem?_cons_succ]); try exact rfl) (by kernel_rfl) (by kernel_rfl) (by kernel_rfl) (fun _ _ _ h => h) ?hy230 (by assumption) ?hr230
          case hy230 => (first | (refine Or.inr ⟨by rfl, ?_⟩; rfl) | (refine' yields_sload1 ?x230a 23 _ ?x230b ?x230c ?x230d _ ?x230e ?x230f _ ?x230g; (case x230a => rfl); (case x230b => rfl); (case x230c => rfl); (case x230d => (repeat (first | with_reducible exact List.mem_cons_self | with_reducible apply List.mem_cons_of_mem)) <;> fail); (case x230e => exact Try.underlying23); (case x230f => rfl); (case x230g => exact (by (conv => lhs; simp only [List.getElem?_cons_succ, List.getElem?_cons_zero]); try exact rfl))))
          (try simp only [Act.put, List.setIfInBounds_toArray, List.set_cons_zero, List.set_cons_succ])
          refine' wpAnyH_take (i := 21) (v := _) (by (conv => lhs; simp only [List.getElem?_toArray, List.getElem?_cons_zero, List.getElem?_cons_succ]); try exact rfl) (by kernel_rfl) (by kernel_rfl) (by kernel_rfl) (fun _ _ _ h => h) ?hy231 (by assumption) ?hr231
          case hy231 => (first | exact Or.inl ⟨by rfl, by intro w9 _; first | (go_simp; done) | (go_simp; with_reducible rfl)⟩ | (refine Or.inr ⟨by rfl, ?_⟩; rfl))
          (try simp only [Act.put, List.setIfInBounds_toArray, List.set_cons_zero, List.set_cons_succ])
          refine' wpAnyH_take (i := 22) (v := _) (by (conv => lhs; simp only [List.getElem?_toArray, List.getElem?_cons_zero, List.getElem?_cons_succ]); try exact rfl) (by kernel_rfl) (by kernel_rfl) (by kernel_rfl) (fun _ _ _ h => h) ?hy232 (by assumption) ?hr232
          case hy232 => (first | exact Or.inl ⟨by rfl, by intro w9 _; first | (go_simp; done) | (go_simp; with_reducible rfl)⟩ | (refine Or.inr ⟨by rfl, ?_⟩; rfl))
          (try simp only [Act.put, List.setIfInBounds_toArray, List.set_cons_zero, List.set_cons_succ])
          refine' wpAnyH_take (i := 23) (v := _) (by (conv => lhs; simp only [List.getElem?_toArray, List.getElem?_cons_zero, List.getElem?_cons_succ]); try exact rfl) (by kernel_rfl) (by kernel_rfl) (by kernel_rfl) (fun _ _ _ h => h) ?hy233 (by assumption) ?hr233
          case hy233 => first | (refine' yields_cell (v := .bool true) ?ta 4 _ ?tb ?tc ?td _ ?te ?tf; (case ta => rfl); (case tb => rfl); (case tc => rfl); (case td => exact fun W hW => hW.frame.cell G2.out); (case te => exact Try.underlying4); (case tf => rfl)) | (refine' yields_cell (v := .bool false) ?ta 4 _ ?tb ?tc ?td _ ?te ?tf; (case ta => rfl); (case tb => rfl); (case tc => rfl); (case td => exact fun W hW => hW.frame.cell G2.out); (case te => exact Try.underlying4); (case tf => rfl)) | (refine' yields_cell (v := .bool l) ?ta 4 _ ?tb ?tc ?td _ ?te ?tf; (case ta => rfl); (case tb => rfl); (case tc => rfl); (case td => exact fun W hW => hW.frame.cell G2.out); (case te => exact Try.underlying4); (case tf => rfl)) | (refine Or.inr ⟨by rfl, ?_⟩; rfl)
          (try simp only [Act.put, List.setIfInBounds_toArray, List.set_cons_zero, List.set_cons_succ])
          refine' wpAnyH_take (i := 24) (v := _) (by (conv => lhs; simp only [List.getElem?_toArray, List.getElem?_cons_zero, List.getElem?_cons_succ]); try exact rfl) (by kernel_rfl) (by kernel_rfl) (by kernel_rfl) (fun _ _ _ h => h) ?hy234 (by assumption) ?hr234
          case hy234 => (first | exact Or.inl ⟨by rfl, by intro w9 _; first | (go_simp; done) | (go_simp; with_reducible rfl)⟩ | (refine Or.inr ⟨by rfl, ?_⟩; rfl))
          (try simp only [Act.put, List.setIfInBounds_toArray, List.set_cons_zero, List.set_cons_succ])
          refine' wpAnyH_take (i := 25) (v := _) (by (conv => lhs; simp only [List.getElem?_toArray, List.getElem?_cons_zero, List.getElem?_cons_succ]); try exact rfl) (by kernel_rfl) (by kernel_rfl) (by kernel_rfl) (fun _ _ _ h => h) ?hy235 (by assumption) ?hr235
          case hy235 => (first | exact Or.inl ⟨by rfl, by intro w9 _; first | (go_simp; done) | (go_simp; with_reducible rfl)⟩ | (refine Or.inr ⟨by rfl, ?_⟩; rfl))
          (try simp only [Act.put, List.setIfInBounds_toArray, List.set_cons_zero, List.set_cons_succ])
          refine' wpAnyH_take (i := 26) (v := _) (by (conv => lhs; simp only [List.getElem?_toArray, List.getElem?_cons_zero, List.getElem?_cons_succ]); try exact rfl) (by kernel_rfl) (by kernel_rfl) (by kernel_rfl) (fun _ _ _ h => h) ?hy236 (by assumption) ?hr236
          case hy236 => (first | (refine Or.inr ⟨by rfl, ?_⟩; rfl) | (refine' yields_sload1 ?x236a 23 _ ?x236b ?x236c ?x236d _ ?x236e ?x236f _ ?x236g; (case x236a => rfl); (case x236b => rfl); (case x236c => rfl); (case x236d => (repeat (first | with_reducible exact List.mem_cons_self | with_reducible apply List.mem_cons_of_mem)) <;> fail); (case x236e => exact Try.underlying23); (case x236f => rfl); (case x236g => exact (by (conv => lhs; simp only [List.getElem?_cons_succ, List.getElem?_cons_zero]); try exact rfl))))
          (try simp only [Act.put, List.setIfInBounds_toArray, List.set_cons_zero, List.set_cons_succ])
          refine' wpAnyH_take (i := 27) (v := _) (by (conv => lhs; simp only [List.getElem?_toArray, List.getElem?_cons_zero, List.getElem?_cons_succ]); try exact rfl) (by kernel_rfl) (by kernel_rfl) (by kernel_rfl) (fun _ _ _ h => h) ?hy237 (by assumption) ?hr237
          case hy237 => (first | exact Or.inl ⟨by rfl, by intro w9 _; first | (go_simp; done) | (go_simp; with_reducible rfl)⟩ | (refine Or.inr ⟨by rfl, ?_⟩; rfl))
          (try simp only [Act.put, List.setIfInBounds_toArray, List.set_cons_zero, List.set_cons_succ])
          refine' wpAnyH_take (i := 28) (v := _) (by (conv => lhs; simp only [List.getElem?_toArray, List.getElem?_cons_zero, List.getElem?_cons_succ]); try exact rfl) (by kernel_rfl) (by kernel_rfl) (by kernel_rfl) (fun _ _ _ h => h) ?hy238 (by assumption) ?hr238
          case hy238 => (first | exact Or.inl ⟨by rfl, by intro w9 _; first | (go_simp; done) | (go_simp; with_reducible rfl)⟩ | (refine Or.inr ⟨by rfl, ?_⟩; rfl))
          (try simp only [Act.put, List.setIfInBounds_toArray, List.set_cons_zero, List.set_cons_succ])
          refine' wpAnyH_take (i := 29) (v := _) (by (conv => lhs; simp only [List.getElem?_toArray, List.getElem?_cons_zero, List.getElem?_cons_succ]); try exact rfl) (by kernel_rfl) (by kernel_rfl) (by kernel_rfl) (fun _ _ _ h => h) ?hy239 (by assumption) ?hr239
          case hy239 => first | (refine' yields_cell (v := .bool true) ?ta 4 _ ?tb ?tc ?td _ ?te ?tf; (case ta => rfl); (case tb => rfl); (case tc => rfl); (case td => exact fun W hW => hW.frame.cell G3.out); (case te => exact Try.underlying4); (case tf => rfl)) | (refine' yields_cell (v := .bool false) ?ta 4 _ ?tb ?tc ?td _ ?te ?tf; (case ta => rfl); (case tb => rfl); (case tc => rfl); (case td => exact fun W hW => hW.frame.cell G3.out); (case te => exact Try.underlying4); (case tf => rfl)) | (refine' yields_cell (v := .bool b) ?ta 4 _ ?tb ?tc ?td _ ?te ?tf; (case ta => rfl); (case tb => rfl); (case tc => rfl); (case td => exact fun W hW => hW.frame.cell G3.out); (case te => exact Try.underlying4); (case tf => rfl)) | (refine Or.inr ⟨by rfl, ?_⟩; rfl)
          (try simp only [Act.put, List.setIfInBounds_toArray, List.set_cons_zero, List.set_cons_succ])
          refine' wpAnyH_take (i := 30) (v := _) (by (conv => lhs; simp only [List.getElem?_toArray, List.getElem?_cons_zero, List.getElem?_cons_succ]); try exact rfl) (by kernel_rfl) (by kernel_rfl) (by kernel_rfl) (fun _ _ _ h => h) ?hy240 (by assumption) ?hr240
          case hy240 => (first | exact Or.inl ⟨by rfl, by intro w9 _; first | (go_simp; done) | (go_simp; with_reducible rfl)⟩ | (refine Or.inr ⟨by rfl, ?_⟩; rfl))
          (try simp only [Act.put, List.setIfInBounds_toArray, List.set_cons_zero, List.set_cons_succ])
          refine' wpAnyH_take (i := 31) (v := _) (by (conv => lhs; simp only [List.getElem?_toArray, List.getElem?_cons_zero, List.getElem?_cons_succ]); try exact rfl) (by kernel_rfl) (by kernel_rfl) (by kernel_rfl) (fun _ _ _ h => h) ?hy241 (by assumption) ?hr241
          case hy241 => (first | exact Or.inl ⟨by rfl, by intro w9 _; first | (go_simp; done) | (go_simp; with_reducible rfl)⟩ | (refine Or.inr ⟨by rfl, ?_⟩; rfl))
          (try simp only [Act.put, List.setIfInBounds_toArray, List.set_cons_zero, List.set_cons_succ])
          refine' wpAnyH_take (i := 32) (v := _) (by (conv => lhs; simp only [List.getElem?_toArray, List.getElem?_cons_zero, List.getElem?_cons_succ]); try exact rfl) (by kernel_rfl) (by kernel_rfl) (by kernel_rfl) (fun _ _ _ h => h) ?hy242 (by assumption) ?hr242
          case hy242 => (first | exact Or.inl ⟨by rfl, by intro w9 _; first | (go_simp; done) | (go_simp; with_reducible rfl)⟩ | (refine Or.inr ⟨by rfl, ?_⟩; rfl))
          (try simp only [Act.put, List.setIfInBounds_toArray, List.set_cons_zero, List.set_cons_succ])
          refine' wpAnyH_take (i := 33) (v := _) (by (conv => lhs; simp only [List.getElem?_toArray, List.getElem?_cons_zero, List.getElem?_cons_succ]); try exact rfl) (by kernel_rfl) (by kernel_rfl) (by kernel_rfl) (fun _ _ _ h => h) ?hy243 (by assumption) ?hr243
          case hy243 => (first | exact Or.inl ⟨by rfl, by intro w9 _; first | (go_simp; done) | (go_simp; with_reducible rfl)⟩ | (refine Or.inr ⟨by rfl, ?_⟩; rfl))
          (try simp only [Act.put, List.setIfInBounds_toArray, List.set_cons_zero, List.set_cons_succ])
          refine' wpAnyH_take (i := 34) (v := _) (by (conv => lhs; simp only [List.getElem?_toArray, List.getElem?_cons_zero, List.getElem?_cons_succ]); try exact rfl) (by kernel_rfl) (by kernel_rfl) (by kernel_rfl) (fun _ _ _ h => h) ?hy244 (by assumption) ?hr244
          case hy244 => (first | (refine Or.inr ⟨by rfl, ?_⟩; rfl) | (refine' yields_sload1 ?x244a 22 _ ?x244b ?x244c ?x244d _ ?x244e ?x244f _ ?x244g; (case x244a => rfl); (case x244b => rfl); (case x244c => rfl); (case x244d => (repeat (first | with_reducible exact List.mem_cons_self | with_reducible apply List.mem_cons_of_mem)) <;> fail); (case x244e => exact Try.underlying22); (case x244f => rfl); (case x244g => exact (by (conv => lhs; simp only [List.getElem?_cons_succ, List.getElem?_cons_zero]); try exact rfl))))
          (try simp only [Act.put, List.setIfInBounds_toArray, List.set_cons_zero, List.set_cons_succ])
          refine' wpAnyH_take (i := 35) (v := _) (by (conv => lhs; simp only [List.getElem?_toArray, List.getElem?_cons_zero, List.getElem?_cons_succ]); try exact rfl) (by kernel_rfl) (by kernel_rfl) (by kernel_rfl) (fun _ _ _ h => h) ?hy245 (by assumption) ?hr245
          case hy245 => (first | exact Or.inl ⟨by rfl, by intro w9 _; first | (go_simp; done) | (go_simp; with_reducible rfl)⟩ | (refine Or.inr ⟨by rfl, ?_⟩; rfl))
          (try simp only [Act.put, List.setIfInBounds_toArray, List.set_cons_zero, List.set_cons_succ])
          refine' wpAnyH_take (i := 36) (v := _) (by (conv => lhs; simp only [List.getElem?_toArray, List.getElem?_cons_zero, List.getElem?_cons_succ]); try exact rfl) (by kernel_rfl) (by kernel_rfl) (by kernel_rfl) (fun _ _ _ h => h) ?hy246 (by assumption) ?hr246
          case hy246 => (first | exact Or.inl ⟨by rfl, by intro w9 _; first | (go_simp; done) | (go_simp; with_reducible rfl)⟩ | (refine Or.inr ⟨by rfl, ?_⟩; rfl))
          (try simp only [Act.put, List.setIfInBounds_toArray, List.set_cons_zero, List.set_cons_succ])
          refine' wpAnyH_take (i := 37) (v := _) (by (conv => lhs; simp only [List.getElem?_toArray, List.getElem?_cons_zero, List.getElem?_cons_succ]); try exact rfl) (by kernel_rfl) (by kernel_rfl) (by kernel_rfl) (fun _ _ _ h => h) ?hy247 (by assumption) ?hr247
          case hy247 => (first | exact Or.inl ⟨by rfl, by intro w9 _; first | (go_simp; done) | (go_simp; with_reducible rfl)⟩ | (refine Or.inr ⟨by rfl, ?_⟩; rfl))
          (try simp only [Act.put, List.setIfInBounds_toArray, List.set_cons_zero, List.set_cons_succ])
          refine' wpAnyH_take (i := 38) (v := _) (by (conv => lhs; simp only [List.getElem?_toArray, List.getElem?_cons_zero, List.getElem?_cons_succ]); try exact rfl) (by kernel_rfl) (by kernel_rfl) (by kernel_rfl) (fun _ _ _ h => h) ?hy248 (by assumption) ?hr248
          case hy248 => first | (refine' yields_cell (v := .int .i64 x.ver) ?ta 3 _ ?tb ?tc ?td _ ?te ?tf; (case ta => rfl); (case tb => rfl); (case tc => rfl); (case td => exact fun W hW => (G1.out.fr hW.frame).at_ 6 _ rfl); (case te => exact Try.underlying3); (case tf => rfl)) | (refine Or.inr ⟨by rfl, ?_⟩; rfl)
          (try simp only [Act.put, List.setIfInBounds_toArray, List.set_cons_zero, List.set_cons_succ])
          refine' wpAnyH_take (i := 39) (v := _) (by (conv => lhs; simp only [List.getElem?_toArray, List.getElem?_cons_zero, List.getElem?_cons_succ]); try exact rfl) (by kernel_rfl) (by kernel_rfl) (by kernel_rfl) (fun _ _ _ h => h) ?hy249 (by assumption) ?hr249
          case hy249 => (first | exact Or.inl ⟨by rfl, by intro w9 _; first | (go_simp; done) | (go_simp; with_reducible rfl)⟩ | (refine Or.inr ⟨by rfl, ?_⟩; rfl))
          (try simp only [Act.put, List.setIfInBounds_toArray, List.set_cons_zero, List.set_cons_succ])
          refine' wpAnyH_take (i := 40) (v := _) (by (conv => lhs; simp only [List.getElem?_toArray, List.getElem?_cons_zero, List.getElem?_cons_succ]); try exact rfl) (by kernel_rfl) (by kernel_rfl) (by kernel_rfl) (fun _ _ _ h => h) ?hy250 (by assumption) ?hr250
          case hy250 => (first | (refine Or.inr ⟨by rfl, ?_⟩; rfl) | (refine' yields_sload1 ?x250a 3 _ ?x250b ?x250c ?x250d _ ?x250e ?x250f _ ?x250g; (case x250a => rfl); (case x250b => rfl); (case x250c => rfl); (case x250d => (repeat (first | with_reducible exact List.mem_cons_self | with_reducible apply List.mem_cons_of_mem)) <;> fail); (case x250e => exact Try.underlying3); (case x250f => rfl); (case x250g => exact (by (conv => lhs; simp only [List.getElem?_cons_succ, List.getElem?_cons_zero]); try exact rfl))))
          (try simp only [Act.put, List.setIfInBounds_toArray, List.set_cons_zero, List.set_cons_succ])
          refine' wpAnyH_take (i := 41) (v := _) (by (conv => lhs; simp only [List.getElem?_toArray, List.getElem?_cons_zero, List.getElem?_cons_succ]); try exact rfl) (by kernel_rfl) (by kernel_rfl) (by kernel_rfl) (fun _ _ _ h => h) ?hy251 (by assumption) ?hr251
          case hy251 => (first | exact Or.inl ⟨by rfl, by intro w9 _; first | (go_simp; done) | (go_simp; with_reducible rfl)⟩ | (refine Or.inr ⟨by rfl, ?_⟩; rfl))
          (try simp only [Act.put, List.setIfInBounds_toArray, List.set_cons_zero, List.set_cons_succ])
          refine' wpAnyH_take (i := 42) (v := _) (by (conv => lhs; simp only [List.getElem?_toArray, List.getElem?_cons_zero, List.getElem?_cons_succ]); try exact rfl) (by kernel_rfl) (by kernel_rfl) (by kernel_rfl) (fun _ _ _ h => h) ?hy252 (by assumption) ?hr252
          case hy252 => (first | exact Or.inl ⟨by rfl, by intro w9 _; first | (go_simp; done) | (go_simp; with_reducible rfl)⟩ | (refine Or.inr ⟨by rfl, ?_⟩; rfl))
          (try simp only [Act.put, List.setIfInBounds_toArray, List.set_cons_zero, List.set_cons_succ])
          refine wpAnyH_done (by kernel_rfl) ?_ _
          refine NoPanic.normal ?_
          go_wp2
          go_roundw
          case rel => exact ⟨k + 1, by omega, by go_num, R.out, (Sep.only1 (a1 := aBox gS _ _ _) S (by (repeat (first | with_reducible exact Del.head _ _ | with_reducible apply Del.tail)) <;> fail))⟩
          case measure => simp [intOf]; omega
        | true =>
          simp only [Bool.true_and] at hlb
          subst hlb
          go_wp2
          have S0 := (Sep.only1 (a1 := aBox gS _ _ _) S (by (repeat (first | with_reducible exact Del.head _ _ | with_reducible apply Del.tail)) <;> fail))
          refine wp_region_noPanic ?_
          refine wp_region_held_drew (S := Sep _ _ _) (by kernel_rfl) S0.drew (fun _ => ?_)
          replace S := S.drew
          clear S0
          refine' wpAnyH_take (i := 0) (v := _) (by (conv => lhs; simp only [List.getElem?_toArray, List.getElem?_cons_zero, List.getElem?_cons_succ]); try exact rfl) (by kernel_rfl) (by kernel_rfl) (by kernel_rfl) (fun _ _ _ h => h) ?hy253 (by assumption) ?hr253
          case hy253 => (first | exact Or.inl ⟨by rfl, by intro w9 _; first | (go_simp; done) | (go_simp; with_reducible rfl)⟩ | (refine Or.inr ⟨by rfl, ?_⟩; rfl))
          (try simp only [Act.put, List.setIfInBounds_toArray, List.set_cons_zero, List.set_cons_succ])
          refine' wpAnyH_take (i := 1) (v := _) (by (conv => lhs; simp only [List.getElem?_toArray, List.getElem?_cons_zero, List.getElem?_cons_succ]); try exact rfl) (by kernel_rfl) (by kernel_rfl) (by kernel_rfl) (fun _ _ _ h => h) ?hy254 (by assumption) ?hr254
          case hy254 => (first | (refine' yields_sload1 ?x254a 22 _ ?x254b ?x254c ?x254d _ ?x254e ?x254f _ ?x254g; (case x254a => rfl); (case x254b => rfl); (case x254c => rfl); (case x254d => (repeat (first | with_reducible exact List.mem_cons_self | with_reducible apply List.mem_cons_of_mem)) <;> fail); (case x254e => exact Try.underlying22); (case x254f => rfl); (case x254g => exact (by (conv => lhs; simp only [List.getElem?_cons_succ, List.getElem?_cons_zero]); try exact rfl))))
          (try simp only [Act.put, List.setIfInBounds_toArray, List.set_cons_zero, List.set_cons_succ])
          refine' wpAnyH_take (i := 2) (v := _) (by (conv => lhs; simp only [List.getElem?_toArray, List.getElem?_cons_zero, List.getElem?_cons_succ]); try exact rfl) (by kernel_rfl) (by kernel_rfl) (by kernel_rfl) (fun _ _ _ h => h) ?hy255 (by assumption) ?hr255
          case hy255 => (first | exact Or.inl ⟨by rfl, by intro w9 _; first | (go_simp; done) | (go_simp; with_reducible rfl)⟩ | (refine Or.inr ⟨by rfl, ?_⟩; rfl))
          (try simp only [Act.put, List.setIfInBounds_toArray, List.set_cons_zero, List.set_cons_succ])
          refine' wpAnyH_take (i := 3) (v := _) (by (conv => lhs; simp only [List.getElem?_toArray, List.getElem?_cons_zero, List.getElem?_cons_succ]); try exact rfl) (by kernel_rfl) (by kernel_rfl) (by kernel_rfl) (fun _ _ _ h => h) ?hy256 (by assumption) ?hr256
          case hy256 => (first | exact Or.inl ⟨by rfl, by intro w9 _; first | (go_simp; done) | (go_simp; with_reducible rfl)⟩ | (refine Or.inr ⟨by rfl, ?_⟩; rfl))
          (try simp only [Act.put, List.setIfInBounds_toArray, List.set_cons_zero, List.set_cons_succ])
          refine' wpAnyH_take (i := 4) (v := _) (by (conv => lhs; simp only [List.getElem?_toArray, List.getElem?_cons_zero, List.getElem?_cons_succ]); try exact rfl) (by kernel_rfl) (by kernel_rfl) (by kernel_rfl) (fun _ _ _ h => h) ?hy257 (by assumption) ?hr257
          case hy257 => first | (refine' yields_pkld (p := x) ?ta 41 _ ?tb ?tc ?td _ ?te ?tf ?tg; (case ta => rfl); (case tb => rfl); (case tc => rfl); (case td => exact fun W hW => G1.out.fr hW.frame); (case te => exact Try.underlying41); (case tf => rfl); (case tg => exact ts41))
          (try simp only [Act.put, List.setIfInBounds_toArray, List.set_cons_zero, List.set_cons_succ])
          refine wpAnyH_ready (rs := [5]) (by kernel_rfl) (by simp) ?_
          refine AllReadyH.cons (i := 5) (by (conv => lhs; simp only [List.getElem?_toArray, List.getElem?_cons_zero, List.getElem?_cons_succ]); try exact rfl) (fun K hK => ?_) AllReadyH.nil
          go_simp; (skip; go_at_call 46; (with_reducible refine (sPacketOk_l _ x).mono ?_); rintro e w9 ⟨rfl, f9⟩; rw [O1.out]; replace S := S.fr f9; clear f9)
          (first | refine hK.out _ _ (S.sub (by (repeat (first | exact List.nil_sublist _ | exact List.Sublist.refl _ | with_reducible apply List.Sublist.cons_cons | apply List.Sublist.cons)) <;> fail)) (fun _ => ?_) | (go_wp2_with fail; refine hK.out _ _ (S.sub (by (repeat (first | exact List.nil_sublist _ | exact List.Sublist.refl _ | with_reducible apply List.Sublist.cons_cons | apply List.Sublist.cons)) <;> fail)) (fun _ => ?_)))
          clear hK K
          (try simp only [Act.put, List.setIfInBounds_toArray, List.set_cons_zero, List.set_cons_succ])
          refine' wpAnyH_take (i := 6) (v := _) (by (conv => lhs; simp only [List.getElem?_toArray, List.getElem?_cons_zero, List.getElem?_cons_succ]); try exact rfl) (by kernel_rfl) (by kernel_rfl) (by kernel_rfl) (fun _ _ _ h => h) ?hy258 (by assumption) ?hr258
          case hy258 => (first | exact Or.inl ⟨by rfl, by intro w9 _; first | (go_simp; done) | (go_simp; with_reducible rfl)⟩ | (refine Or.inr ⟨by rfl, ?_⟩; rfl))
          (try simp only [Act.put, List.setIfInBounds_toArray, List.set_cons_zero, List.set_cons_succ])
          refine' wpAnyH_take (i := 7) (v := _) (by (conv => lhs; simp only [List.getElem?_toArray, List.getElem?_cons_zero, List.getElem?_cons_succ]); try exact rfl) (by kernel_rfl) (by kernel_rfl) (by kernel_rfl) (fun _ _ _ h => h) ?hy259 (by assumption) ?hr259
          case hy259 => (first | exact Or.inl ⟨by rfl, by intro w9 _; first | (go_simp; done) | (go_simp; with_reducible rfl)⟩ | (refine Or.inr ⟨by rfl, ?_⟩; rfl))
          (try simp only [Act.put, List.setIfInBounds_toArray, List.set_cons_zero, List.set_cons_succ])
          refine' wpAnyH_take (i := 8) (v := _) (by (conv => lhs; simp only [List.getElem?_toArray, List.getElem?_cons_zero, List.getElem?_cons_succ]); try exact rfl) (by kernel_rfl) (by kernel_rfl) (by kernel_rfl) (fun _ _ _ h => h) ?hy260 (by assumption) ?hr260
          case hy260 => (first | exact Or.inl ⟨by rfl, by intro w9 _; first | (go_simp; done) | (go_simp; with_reducible rfl)⟩ | (refine Or.inr ⟨by rfl, ?_⟩; rfl))
          (try simp only [Act.put, List.setIfInBounds_toArray, List.set_cons_zero, List.set_cons_succ])
          refine' wpAnyH_take (i := 9) (v := _) (by (conv => lhs; simp only [List.getElem?_toArray, List.getElem?_cons_zero, List.getElem?_cons_succ]); try exact rfl) (by kernel_rfl) (by kernel_rfl) (by kernel_rfl) (fun _ _ _ h => h) ?hy261 (by assumption) ?hr261
          case hy261 => (first | (refine Or.inr ⟨by rfl, ?_⟩; rfl) | (refine' yields_sload1 ?x261a 22 _ ?x261b ?x261c ?x261d _ ?x261e ?x261f _ ?x261g; (case x261a => rfl); (case x261b => rfl); (case x261c => rfl); (case x261d => (repeat (first | with_reducible exact List.mem_cons_self | with_reducible apply List.mem_cons_of_mem)) <;> fail); (case x261e => exact Try.underlying22); (case x261f => rfl); (case x261g => exact (by (conv => lhs; simp only [List.getElem?_cons_succ, List.getElem?_cons_zero]); try exact rfl))))
          (try simp only [Act.put, List.setIfInBounds_toArray, List.set_cons_zero, List.set_cons_succ])
          refine' wpAnyH_take (i := 10) (v := _) (by (conv => lhs; simp only [List.getElem?_toArray, List.getElem?_cons_zero, List.getElem?_cons_succ]); try exact rfl) (by kernel_rfl) (by kernel_rfl) (by kernel_rfl) (fun _ _ _ h => h) ?hy262 (by assumption) ?hr262
          case hy262 => (first | exact Or.inl ⟨by rfl, by intro w9 _; first | (go_simp; done) | (go_simp; with_reducible rfl)⟩ | (refine Or.inr ⟨by rfl, ?_⟩; rfl))
          (try simp only [Act.put, List.setIfInBounds_toArray, List.set_cons_zero, List.set_cons_succ])
          refine' wpAnyH_take (i := 11) (v := _) (by (conv => lhs; simp only [List.getElem?_toArray, List.getElem?_cons_zero, List.getElem?_cons_succ]); try exact rfl) (by kernel_rfl) (by kernel_rfl) (by kernel_rfl) (fun _ _ _ h => h) ?hy263 (by assumption) ?hr263
          case hy263 => (first | exact Or.inl ⟨by rfl, by intro w9 _; first | (go_simp; done) | (go_simp; with_reducible rfl)⟩ | (refine Or.inr ⟨by rfl, ?_⟩; rfl))
          (try simp only [Act.put, List.setIfInBounds_toArray, List.set_cons_zero, List.set_cons_succ])
          refine' wpAnyH_take (i := 12) (v := _) (by (conv => lhs; simp only [List.getElem?_toArray, List.getElem?_cons_zero, List.getElem?_cons_succ]); try exact rfl) (by kernel_rfl) (by kernel_rfl) (by kernel_rfl) (fun _ _ _ h => h) ?hy264 (by assumption) ?hr264
          case hy264 => (first | exact Or.inl ⟨by rfl, by intro w9 _; first | (go_simp; done) | (go_simp; with_reducible rfl)⟩ | (refine Or.inr ⟨by rfl, ?_⟩; rfl))
          (try simp only [Act.put, List.setIfInBounds_toArray, List.set_cons_zero, List.set_cons_succ])
          refine' wpAnyH_take (i := 13) (v := _) (by (conv => lhs; simp only [List.getElem?_toArray, List.getElem?_cons_zero, List.getElem?_cons_succ]); try exact rfl) (by kernel_rfl) (by kernel_rfl) (by kernel_rfl) (fun _ _ _ h => h) ?hy265 (by assumption) ?hr265
          case hy265 => first | (refine' yields_cell (v := .int .i64 x.seq) ?ta 3 _ ?tb ?tc ?td _ ?te ?tf; (case ta => rfl); (case tb => rfl); (case tc => rfl); (case td => exact fun W hW => (G1.out.fr hW.frame).at_ 0 _ rfl); (case te => exact Try.underlying3); (case tf => rfl)) | (refine Or.inr ⟨by rfl, ?_⟩; rfl)
          (try simp only [Act.put, List.setIfInBounds_toArray, List.set_cons_zero, List.set_cons_succ])
          refine' wpAnyH_take (i := 14) (v := _) (by (conv => lhs; simp only [List.getElem?_toArray, List.getElem?_cons_zero, List.getElem?_cons_succ]); try exact rfl) (by kernel_rfl) (by kernel_rfl) (by kernel_rfl) (fun _ _ _ h => h) ?hy266 (by assumption) ?hr266
          case hy266 => (first | exact Or.inl ⟨by rfl, by intro w9 _; first | (go_simp; done) | (go_simp; with_reducible rfl)⟩ | (refine Or.inr ⟨by rfl, ?_⟩; rfl))
          (try simp only [Act.put, List.setIfInBounds_toArray, List.set_cons_zero, List.set_cons_succ])
          refine' wpAnyH_take (i := 15) (v := _) (by (conv => lhs; simp only [List.getElem?_toArray, List.getElem?_cons_zero, List.getElem?_cons_succ]); try exact rfl) (by kernel_rfl) (by kernel_rfl) (by kernel_rfl) (fun _ _ _ h => h) ?hy267 (by assumption) ?hr267
          case hy267 => (first | exact Or.inl ⟨by rfl, by intro w9 _; first | (go_simp; done) | (go_simp; with_reducible rfl)⟩ | (refine Or.inr ⟨by rfl, ?_⟩; rfl))
          (try simp only [Act.put, List.setIfInBounds_toArray, List.set_cons_zero, List.set_cons_succ])
          refine' wpAnyH_take (i := 16) (v := _) (by (conv => lhs; simp only [List.getElem?_toArray, List.getElem?_cons_zero, List.getElem?_cons_succ]); try exact rfl) (by kernel_rfl) (by kernel_rfl) (by kernel_rfl) (fun _ _ _ h => h) ?hy268 (by assumption) ?hr268
          case hy268 => (first | exact Or.inl ⟨by rfl, by intro w9 _; first | (go_simp; done) | (go_simp; with_reducible rfl)⟩ | (refine Or.inr ⟨by rfl, ?_⟩; rfl))
          (try simp only [Act.put, List.setIfInBounds_toArray, List.set_cons_zero, List.set_cons_succ])
          refine' wpAnyH_take (i := 17) (v := _) (by (conv => lhs; simp only [List.getElem?_toArray, List.getElem?_cons_zero, List.getElem?_cons_succ]); try exact rfl) (by kernel_rfl) (by kernel_rfl) (by kernel_rfl) (fun _ _ _ h => h) ?hy269 (by assumption) ?hr269
          case hy269 => (first | exact Or.inl ⟨by rfl, by intro w9 _; first | (go_simp; done) | (go_simp; with_reducible rfl)⟩ | (refine Or.inr ⟨by rfl, ?_⟩; rfl))
          (try simp only [Act.put, List.setIfInBounds_toArray, List.set_cons_zero, List.set_cons_succ])
          refine' wpAnyH_take (i := 18) (v := _) (by (conv => lhs; simp only [List.getElem?_toArray, List.getElem?_cons_zero, List.getElem?_cons_succ]); try exact rfl) (by kernel_rfl) (by kernel_rfl) (by kernel_rfl) (fun _ _ _ h => h) ?hy270 (by assumption) ?hr270
          case hy270 => (first | exact Or.inl ⟨by rfl, by intro w9 _; first | (go_simp; done) | (go_simp; with_reducible rfl)⟩ | (refine Or.inr ⟨by rfl, ?_⟩; rfl))
          (try simp only [Act.put, List.setIfInBounds_toArray, List.set_cons_zero, List.set_cons_succ])
          refine' wpAnyH_take (i := 19) (v := _) (by (conv => lhs; simp only [List.getElem?_toArray, List.getElem?_cons_zero, List.getElem?_cons_succ]); try exact rfl) (by kernel_rfl) (by kernel_rfl) (by kernel_rfl) (fun _ _ _ h => h) ?hy271 (by assumption) ?hr271
          case hy271 => (first | exact Or.inl ⟨by rfl, by intro w9 _; first | (go_simp; done) | (go_simp; with_reducible rfl)⟩ | (refine Or.inr ⟨by rfl, ?_⟩; rfl))
          (try simp only [Act.put, List.setIfInBounds_toArray, List.set_cons_zero, List.set_cons_succ])
          refine' wpAnyH_take (i := 20) (v := _) (by (conv => lhs; simp only [List.getElem?_toArray, List.getElem?_cons_zero, List.getElem?_cons_succ]); try exact rfl) (by kernel_rfl) (by kernel_rfl) (by kernel_rfl) (fun _ _ _ h => h) ?hy272 (by assumption) ?hr272
          case hy272 => (first | (refine Or.inr ⟨by rfl, ?_⟩; rfl) | (refine' yields_sload1 ?x272a 23 _ ?x272b ?x272c ?x272d _ ?x272e ?x272f _ ?x272g; (case x272a => rfl); (case x272b => rfl); (case x272c => rfl); (case x272d => (repeat (first | with_reducible exact List.mem_cons_self | with_reducible apply List.mem_cons_of_mem)) <;> fail); (case x272e => exact Try.underlying23); (case x272f => rfl); (case x272g => exact (by (conv => lhs; simp only [List.getElem?_cons_succ, List.getElem?_cons_zero]); try exact rfl))))
          (try simp only [Act.put, List.setIfInBounds_toArray, List.set_cons_zero, List.set_cons_succ])
          refine' wpAnyH_take (i := 21) (v := _) (by (conv => lhs; simp only [List.getElem?_toArray, List.getElem?_cons_zero, List.getElem?_cons_succ]); try exact rfl) (by kernel_rfl) (by kernel_rfl) (by kernel_rfl) (fun _ _ _ h => h) ?hy273 (by assumption) ?hr273
          case hy273 => (first | exact Or.inl ⟨by rfl, by intro w9 _; first | (go_simp; done) | (go_simp; with_reducible rfl)⟩ | (refine Or.inr ⟨by rfl, ?_⟩; rfl))
          (try simp only [Act.put, List.setIfInBounds_toArray, List.set_cons_zero, List.set_cons_succ])
          refine' wpAnyH_take (i := 22) (v := _) (by (conv => lhs; simp only [List.getElem?_toArray, List.getElem?_cons_zero, List.getElem?_cons_succ]); try exact rfl) (by kernel_rfl) (by kernel_rfl) (by kernel_rfl) (fun _ _ _ h => h) ?hy274 (by assumption) ?hr274
          case hy274 => (first | exact Or.inl ⟨by rfl, by intro w9 _; first | (go_simp; done) | (go_simp; with_reducible rfl)⟩ | (refine Or.inr ⟨by rfl, ?_⟩; rfl))
          (try simp only [Act.put, List.setIfInBounds_toArray, List.set_cons_zero, List.set_cons_succ])
          refine' wpAnyH_take (i := 23) (v := _) (by (conv => lhs; simp only [List.getElem?_toArray, List.getElem?_cons_zero, List.getElem?_cons_succ]); try exact rfl) (by kernel_rfl) (by kernel_rfl) (by kernel_rfl) (fun _ _ _ h => h) ?hy275 (by assumption) ?hr275
          case hy275 => first | (refine' yields_cell (v := .bool true) ?ta 4 _ ?tb ?tc ?td _ ?te ?tf; (case ta => rfl); (case tb => rfl); (case tc => rfl); (case td => exact fun W hW => hW.frame.cell G2.out); (case te => exact Try.underlying4); (case tf => rfl)) | (refine' yields_cell (v := .bool false) ?ta 4 _ ?tb ?tc ?td _ ?te ?tf; (case ta => rfl); (case tb => rfl); (case tc => rfl); (case td => exact fun W hW => hW.frame.cell G2.out); (case te => exact Try.underlying4); (case tf => rfl)) | (refine' yields_cell (v := .bool l) ?ta 4 _ ?tb ?tc ?td _ ?te ?tf; (case ta => rfl); (case tb => rfl); (case tc => rfl); (case td => exact fun W hW => hW.frame.cell G2.out); (case te => exact Try.underlying4); (case tf => rfl)) | (refine Or.inr ⟨by rfl, ?_⟩; rfl)
          (try simp only [Act.put, List.setIfInBounds_toArray, List.set_cons_zero, List.set_cons_succ])
          refine' wpAnyH_take (i := 24) (v := _) (by (conv => lhs; simp only [List.getElem?_toArray, List.getElem?_cons_zero, List.getElem?_cons_succ]); try exact rfl) (by kernel_rfl) (by kernel_rfl) (by kernel_rfl) (fun _ _ _ h => h) ?hy276 (by assumption) ?hr276
          case hy276 => (first | exact Or.inl ⟨by rfl, by intro w9 _; first | (go_simp; done) | (go_simp; with_reducible rfl)⟩ | (refine Or.inr ⟨by rfl, ?_⟩; rfl))
          (try simp only [Act.put, List.setIfInBounds_toArray, List.set_cons_zero, List.set_cons_succ])
          refine' wpAnyH_take (i := 25) (v := _) (by (conv => lhs; simp only [List.getElem?_toArray, List.getElem?_cons_zero, List.getElem?_cons_succ]); try exact rfl) (by kernel_rfl) (by kernel_rfl) (by kernel_rfl) (fun _ _ _ h => h) ?hy277 (by assumption) ?hr277
          case hy277 => (first | exact Or.inl ⟨by rfl, by intro w9 _; first | (go_simp; done) | (go_simp; with_reducible rfl)⟩ | (refine Or.inr ⟨by rfl, ?_⟩; rfl))
          (try simp only [Act.put, List.setIfInBounds_toArray, List.set_cons_zero, List.set_cons_succ])
          refine' wpAnyH_take (i := 26) (v := _) (by (conv => lhs; simp only [List.getElem?_toArray, List.getElem?_cons_zero, List.getElem?_cons_succ]); try exact rfl) (by kernel_rfl) (by kernel_rfl) (by kernel_rfl) (fun _ _ _ h => h) ?hy278 (by assumption) ?hr278
          case hy278 => (first | (refine Or.inr ⟨by rfl, ?_⟩; rfl) | (refine' yields_sload1 ?x278a 23 _ ?x278b ?x278c ?x278d _ ?x278e ?x278f _ ?x278g; (case x278a => rfl); (case x278b => rfl); (case x278c => rfl); (case x278d => (repeat (first | with_reducible exact List.mem_cons_self | with_reducible apply List.mem_cons_of_mem)) <;> fail); (case x278e => exact Try.underlying23); (case x278f => rfl); (case x278g => exact (by (conv => lhs; simp only [List.getElem?_cons_succ, List.getElem?_cons_zero]); try exact rfl))))
          (try simp only [Act.put, List.setIfInBounds_toArray, List.set_cons_zero, List.set_cons_succ])
          refine' wpAnyH_take (i := 27) (v := _) (by (conv => lhs; simp only [List.getElem?_toArray, List.getElem?_cons_zero, List.getElem?_cons_succ]); try exact rfl) (by kernel_rfl) (by kernel_rfl) (by kernel_rfl) (fun _ _ _ h => h) ?hy279 (by assumption) ?hr279
          case hy279 => (first | exact Or.inl ⟨by rfl, by intro w9 _; first | (go_simp; done) | (go_simp; with_reducible rfl)⟩ | (refine Or.inr ⟨by rfl, ?_⟩; rfl))
          (try simp only [Act.put, List.setIfInBounds_toArray, List.set_cons_zero, List.set_cons_succ])
          refine' wpAnyH_take (i := 28) (v := _) (by (conv => lhs; simp only [List.getElem?_toArray, List.getElem?_cons_zero, List.getElem?_cons_succ]); try exact rfl) (by kernel_rfl) (by kernel_rfl) (by kernel_rfl) (fun _ _ _ h => h) ?hy280 (by assumption) ?hr280
          case hy280 => (first | exact Or.inl ⟨by rfl, by intro w9 _; first | (go_simp; done) | (go_simp; with_reducible rfl)⟩ | (refine Or.inr ⟨by rfl, ?_⟩; rfl))
          (try simp only [Act.put, List.setIfInBounds_toArray, List.set_cons_zero, List.set_cons_succ])
          refine' wpAnyH_take (i := 29) (v := _) (by (conv => lhs; simp only [List.getElem?_toArray, List.getElem?_cons_zero, List.getElem?_cons_succ]); try exact rfl) (by kernel_rfl) (by kernel_rfl) (by kernel_rfl) (fun _ _ _ h => h) ?hy281 (by assumption) ?hr281
          case hy281 => first | (refine' yields_cell (v := .bool true) ?ta 4 _ ?tb ?tc ?td _ ?te ?tf; (case ta => rfl); (case tb => rfl); (case tc => rfl); (case td => exact fun W hW => hW.frame.cell G3.out); (case te => exact Try.underlying4); (case tf => rfl)) | (refine' yields_cell (v := .bool false) ?ta 4 _ ?tb ?tc ?td _ ?te ?tf; (case ta => rfl); (case tb => rfl); (case tc => rfl); (case td => exact fun W hW => hW.frame.cell G3.out); (case te => exact Try.underlying4); (case tf => rfl)) | (refine' yields_cell (v := .bool b) ?ta 4 _ ?tb ?tc ?td _ ?te ?tf; (case ta => rfl); (case tb => rfl); (case tc => rfl); (case td => exact fun W hW => hW.frame.cell G3.out); (case te => exact Try.underlying4); (case tf => rfl)) | (refine Or.inr ⟨by rfl, ?_⟩; rfl)
          (try simp only [Act.put, List.setIfInBounds_toArray, List.set_cons_zero, List.set_cons_succ])
          refine' wpAnyH_take (i := 30) (v := _) (by (conv => lhs; simp only [List.getElem?_toArray, List.getElem?_cons_zero, List.getElem?_cons_succ]); try exact rfl) (by kernel_rfl) (by kernel_rfl) (by kernel_rfl) (fun _ _ _ h => h) ?hy282 (by assumption) ?hr282
          case hy282 => (first | exact Or.inl ⟨by rfl, by intro w9 _; first | (go_simp; done) | (go_simp; with_reducible rfl)⟩ | (refine Or.inr ⟨by rfl, ?_⟩; rfl))
          (try simp only [Act.put, List.setIfInBounds_toArray, List.set_cons_zero, List.set_cons_succ])
          refine' wpAnyH_take (i := 31) (v := _) (by (conv => lhs; simp only [List.getElem?_toArray, List.getElem?_cons_zero, List.getElem?_cons_succ]); try exact rfl) (by kernel_rfl) (by kernel_rfl) (by kernel_rfl) (fun _ _ _ h => h) ?hy283 (by assumption) ?hr283
          case hy283 => (first | exact Or.inl ⟨by rfl, by intro w9 _; first | (go_simp; done) | (go_simp; with_reducible rfl)⟩ | (refine Or.inr ⟨by rfl, ?_⟩; rfl))
          (try simp only [Act.put, List.setIfInBounds_toArray, List.set_cons_zero, List.set_cons_succ])
          refine' wpAnyH_take (i := 32) (v := _) (by (conv => lhs; simp only [List.getElem?_toArray, List.getElem?_cons_zero, List.getElem?_cons_succ]); try exact rfl) (by kernel_rfl) (by kernel_rfl) (by kernel_rfl) (fun _ _ _ h => h) ?hy284 (by assumption) ?hr284
          case hy284 => (first | exact Or.inl ⟨by rfl, by intro w9 _; first | (go_simp; done) | (go_simp; with_reducible rfl)⟩ | (refine Or.inr ⟨by rfl, ?_⟩; rfl))
          (try simp only [Act.put, List.setIfInBounds_toArray, List.set_cons_zero, List.set_cons_succ])
          refine' wpAnyH_take (i := 33) (v := _) (by (conv => lhs; simp only [List.getElem?_toArray, List.getElem?_cons_zero, List.getElem?_cons_succ]); try exact rfl) (by kernel_rfl) (by kernel_rfl) (by kernel_rfl) (fun _ _ _ h => h) ?hy285 (by assumption) ?hr285
          case hy285 => (first | exact Or.inl ⟨by rfl, by intro w9 _; first | (go_simp; done) | (go_simp; with_reducible rfl)⟩ | (refine Or.inr ⟨by rfl, ?_⟩; rfl))
          (try simp only [Act.put, List.setIfInBounds_toArray, List.set_cons_zero, List.set_cons_succ])
          refine' wpAnyH_take (i := 34) (v := _) (by (conv => lhs; simp only [List.getElem?_toArray, List.getElem?_cons_zero, List.getElem?_cons_succ]); try exact rfl) (by kernel_rfl) (by kernel_rfl) (by kernel_rfl) (fun _ _ _ h => h) ?hy286 (by assumption) ?hr286
          case hy286 => (first | (refine Or.inr ⟨by rfl, ?_⟩; rfl) | (refine' yields_sload1 ?x286a 22 _ ?x286b ?x286c ?x286d _ ?x286e ?x286f _ ?x286g; (case x286a => rfl); (case x286b => rfl); (case x286c => rfl); (case x286d => (repeat (first | with_reducible exact List.mem_cons_self | with_reducible apply List.mem_cons_of_mem)) <;> fail); (case x286e => exact Try.underlying22); (case x286f => rfl); (case x286g => exact (by (conv => lhs; simp only [List.getElem?_cons_succ, List.getElem?_cons_zero]); try exact rfl))))
          (try simp only [Act.put, List.setIfInBounds_toArray, List.set_cons_zero, List.set_cons_succ])
          refine' wpAnyH_take (i := 35) (v := _) (by (conv => lhs; simp only [List.getElem?_toArray, List.getElem?_cons_zero, List.getElem?_cons_succ]); try exact rfl) (by kernel_rfl) (by kernel_rfl) (by kernel_rfl) (fun _ _ _ h => h) ?hy287 (by assumption) ?hr287
          case hy287 => (first | exact Or.inl ⟨by rfl, by intro w9 _; first | (go_simp; done) | (go_simp; with_reducible rfl)⟩ | (refine Or.inr ⟨by rfl, ?_⟩; rfl))
          (try simp only [Act.put, List.setIfInBounds_toArray, List.set_cons_zero, List.set_cons_succ])
          refine' wpAnyH_take (i := 36) (v := _) (by (conv => lhs; simp only [List.getElem?_toArray, List.getElem?_cons_zero, List.getElem?_cons_succ]); try exact rfl) (by kernel_rfl) (by kernel_rfl) (by kernel_rfl) (fun _ _ _ h => h) ?hy288 (by assumption) ?hr288
          case hy288 => (first | exact Or.inl ⟨by rfl, by intro w9 _; first | (go_simp; done) | (go_simp; with_reducible rfl)⟩ | (refine Or.inr ⟨by rfl, ?_⟩; rfl))
          (try simp only [Act.put, List.setIfInBounds_toArray, List.set_cons_zero, List.set_cons_succ])
          refine' wpAnyH_take (i := 37) (v := _) (by (conv => lhs; simp only [List.getElem?_toArray, List.getElem?_cons_zero, List.getElem?_cons_succ]); try exact rfl) (by kernel_rfl) (by kernel_rfl) (by kernel_rfl) (fun _ _ _ h => h) ?hy289 (by assumption) ?hr289
          case hy289 => (first | exact Or.inl ⟨by rfl, by intro w9 _; first | (go_simp; done) | (go_simp; with_reducible rfl)⟩ | (refine Or.inr ⟨by rfl, ?_⟩; rfl))
          (try simp only [Act.put, List.setIfInBounds_toArray, List.set_cons_zero, List.set_cons_succ])
          refine' wpAnyH_take (i := 38) (v := _) (by (conv => lhs; simp only [List.getElem?_toArray, List.getElem?_cons_zero, List.getElem?_cons_succ]); try exact rfl) (by kernel_rfl) (by kernel_rfl) (by kernel_rfl) (fun _ _ _ h => h) ?hy290 (by assumption) ?hr290
          case hy290 => first | (refine' yields_cell (v := .int .i64 x.ver) ?ta 3 _ ?tb ?tc ?td _ ?te ?tf; (case ta => rfl); (case tb => rfl); (case tc => rfl); (case td => exact fun W hW => (G1.out.fr hW.frame).at_ 6 _ rfl); (case te => exact Try.underlying3); (case tf => rfl)) | (refine Or.inr ⟨by rfl, ?_⟩; rfl)
          (try simp only [Act.put, List.setIfInBounds_toArray, List.set_cons_zero, List.set_cons_succ])
          refine' wpAnyH_take (i := 39) (v := _) (by (conv => lhs; simp only [List.getElem?_toArray, List.getElem?_cons_zero, List.getElem?_cons_succ]); try exact rfl) (by kernel_rfl) (by kernel_rfl) (by kernel_rfl) (fun _ _ _ h => h) ?hy291 (by assumption) ?hr291
          case hy291 => (first | exact Or.inl ⟨by rfl, by intro w9 _; first | (go_simp; done) | (go_simp; with_reducible rfl)⟩ | (refine Or.inr ⟨by rfl, ?_⟩; rfl))
          (try simp only [Act.put, List.setIfInBounds_toArray, List.set_cons_zero, List.set_cons_succ])
          refine' wpAnyH_take (i := 40) (v := _) (by (conv => lhs; simp only [List.getElem?_toArray, List.getElem?_cons_zero, List.getElem?_cons_succ]); try exact rfl) (by kernel_rfl) (by kernel_rfl) (by kernel_rfl) (fun _ _ _ h => h) ?hy292 (by assumption) ?hr292
          case hy292 => (first | (refine Or.inr ⟨by rfl, ?_⟩; rfl) | (refine' yields_sload1 ?x292a 3 _ ?x292b ?x292c ?x292d _ ?x292e ?x292f _ ?x292g; (case x292a => rfl); (case x292b => rfl); (case x292c => rfl); (case x292d => (repeat (first | with_reducible exact List.mem_cons_self | with_reducible apply List.mem_cons_of_mem)) <;> fail); (case x292e => exact Try.underlying3); (case x292f => rfl); (case x292g => exact (by (conv => lhs; simp only [List.getElem?_cons_succ, List.getElem?_cons_zero]); try exact rfl))))
          (try simp only [Act.put, List.setIfInBounds_toArray, List.set_cons_zero, List.set_cons_succ])
          refine' wpAnyH_take (i := 41) (v := _) (by (conv => lhs; simp only [List.getElem?_toArray, List.getElem?_cons_zero, List.getElem?_cons_succ]); try exact rfl) (by kernel_rfl) (by kernel_rfl) (by kernel_rfl) (fun _ _ _ h => h) ?hy293 (by assumption) ?hr293
          case hy293 => (first | exact Or.inl ⟨by rfl, by intro w9 _; first | (go_simp; done) | (go_simp; with_reducible rfl)⟩ | (refine Or.inr ⟨by rfl, ?_⟩; rfl))
          (try simp only [Act.put, List.setIfInBounds_toArray, List.set_cons_zero, List.set_cons_succ])
          refine' wpAnyH_take (i := 42) (v := _) (by (conv => lhs; simp only [List.getElem?_toArray, List.getElem?_cons_zero, List.getElem?_cons_succ]); try exact rfl) (by kernel_rfl) (by kernel_rfl) (by kernel_rfl) (fun _ _ _ h => h) ?hy294 (by assumption) ?hr294
          case hy294 => (first | exact Or.inl ⟨by rfl, by intro w9 _; first | (go_simp; done) | (go_simp; with_reducible rfl)⟩ | (refine Or.inr ⟨by rfl, ?_⟩; rfl))
          (try simp only [Act.put, List.setIfInBounds_toArray, List.set_cons_zero, List.set_cons_succ])
          refine wpAnyH_done (by kernel_rfl) ?_ _
          refine NoPanic.normal ?_
          go_wp2
          go_roundw
          case rel => exact ⟨k + 1, by omega, by go_num, R.out, (Sep.only1 (a1 := aBox gS _ _ _) S (by (repeat (first | with_reducible exact Del.head _ _ | with_reducible apply Del.tail)) <;> fail))⟩
          case measure => simp [intOf]; omega
    · obtain rfl : n = k := by omega
      have R := Lib.hid (show okSt s = (wantOk s && gotOk s.got) by rw [R0.out, SO.out, HA.out, Bool.and_true])
      clear HA
      have pv : 1 ≤ s.vsn ∧ s.vsn ≤ 9 := of_decide_eq_true W2.out
      have pw : IntKind.i64.wrap (s.vsn + 1) = s.vsn + 1 := IntWalk.i64_in _ (by omega)
      clear pv
      go_wp2_with (first | ((with_reducible refine gate_box (t := 26) rfl ?_); refine wpList_sbox S (by rfl) 26 _ rfl 7 _ rfl (by first | rfl | (refine' (S.len ?m9).trans ?_; (case m9 => (repeat (first | with_reducible exact List.mem_cons_self | with_reducible apply List.mem_cons_of_mem)) <;> fail); rfl) | assumption | exact (Go.RowKit.Hid.out (by assumption))) ?_; clear S; intro g9 w9 z9 S) | ((with_reducible refine gate_load (t := 26) rfl ?_); (first | refine wpList_sload S (by rfl) 26 _ rfl rfl (by (repeat (first | with_reducible exact List.mem_cons_self | with_reducible apply List.mem_cons_of_mem)) <;> fail) _ Try.underlying26 rfl ts26 ?_ | refine wpList_spart S (by rfl) 26 _ rfl rfl (by (repeat (first | with_reducible exact List.mem_cons_self | with_reducible apply List.mem_cons_of_mem)) <;> fail) _ Try.underlying26 rfl ts26 (by decide) _ (by (conv => lhs; simp only [List.drop_succ_cons, List.drop_zero, List.take_succ_cons, List.take_zero, List.set_cons_succ, List.set_cons_zero, List.cons_append, List.nil_append, List.append_nil, List.drop_nil, Nat.reduceAdd]); try exact rfl) ?_)) | ((with_reducible refine gate_load (t := 3) rfl ?_); refine wpList_sload1 S (by rfl) 3 _ rfl rfl (by (repeat (first | with_reducible exact List.mem_cons_self | with_reducible apply List.mem_cons_of_mem)) <;> fail) _ Try.underlying3 rfl _ (by (conv => lhs; simp only [List.getElem?_cons_succ, List.getElem?_cons_zero]); try exact rfl) ?_) | ((with_reducible refine gate_load (t := 4) rfl ?_); refine wpList_sload1 S (by rfl) 4 _ rfl rfl (by (repeat (first | with_reducible exact List.mem_cons_self | with_reducible apply List.mem_cons_of_mem)) <;> fail) _ Try.underlying4 rfl _ (by (conv => lhs; simp only [List.getElem?_cons_succ, List.getElem?_cons_zero]); try exact rfl) ?_) | ((with_reducible refine gate_load (t := 24) rfl ?_); refine wpList_sload1 S (by rfl) 24 _ rfl rfl (by (repeat (first | with_reducible exact List.mem_cons_self | with_reducible apply List.mem_cons_of_mem)) <;> fail) _ Try.underlying24 rfl _ (by (conv => lhs; simp only [List.getElem?_cons_succ, List.getElem?_cons_zero]); try exact rfl) ?_) | ((with_reducible refine gate_load (t := 23) rfl ?_); refine wpList_sload1 S (by rfl) 23 _ rfl rfl (by (repeat (first | with_reducible exact List.mem_cons_self | with_reducible apply List.mem_cons_of_mem)) <;> fail) _ Try.underlying23 rfl _ (by (conv => lhs; simp only [List.getElem?_cons_succ, List.getElem?_cons_zero]); try exact rfl) ?_) | ((with_reducible refine gate_load (t := 22) rfl ?_); refine wpList_sload1 S (by rfl) 22 _ rfl rfl (by (repeat (first | with_reducible exact List.mem_cons_self | with_reducible apply List.mem_cons_of_mem)) <;> fail) _ Try.underlying22 rfl _ (by (conv => lhs; simp only [List.getElem?_cons_succ, List.getElem?_cons_zero]); try exact rfl) ?_))
      go_loopw [5] (fun i wr => ∃ k : Nat, k ≤ 8 ∧ i = .int .i64 k ∧ (s.got.take k).all rng2 = true ∧ Sep [] w [aBox gS 26 7 [.int .i64 s.way, .int .i64 s.vsn, .int .i64 s.want, .slice A1 n c1, .slice A2 n c2, .slice A3 n c3, .slice A4 8 c4]] wr) (fun i _ => 8 - (intOf i).toNat)
      case atStart => exact ⟨0, Nat.zero_le _, rfl, rfl, S⟩
      case round =>
        clear S
        obtain ⟨k, hk8, rfl, hall, S⟩ := hrel
        have HA := Lib.hid hall
        clear hall
        by_cases hlt8 : k < 8
        · have hin : k < s.got.length := by rw [E4.out]; exact hlt8
          obtain ⟨ad4, rfl, g4⟩ := row_int_at h14 k hin
          have HIN := Lib.hid hin
          have G4 := Lib.hid g4
          clear g4
          have p1 : (k : Int) < 8 := by omega
          cases o1 : rng2 (s.got[k]'HIN.out) with
          | false =>
            have R2 := Lib.hid (show okSt s = false by rw [R.out, gotOk_bad HIN.out o1]; simp)
            have O1 := Lib.hid (show decide (0 ≤ s.got[k]'HIN.out ∧ s.got[k]'HIN.out ≤ 2) = false from o1)
            clear o1
            go_wp2_with (first
              | ((with_reducible refine gate_dst (N := 102) rfl ?_); refine wpList_rowint (by rfl) 3 _ rfl rfl (S.frame.cell G4.out) _ Try.underlying3 rfl ?_)
              | (go_at_call 45; (with_reducible refine (l6In_e _ _ 0 2 O1.out).mono ?_); rintro e w9 ⟨rfl, rfl⟩)
              | ((with_reducible refine gate_box (t := 26) rfl ?_); refine wpList_sbox S (by rfl) 26 _ rfl 7 _ rfl (by first | rfl | (refine' (S.len ?m9).trans ?_; (case m9 => (repeat (first | with_reducible exact List.mem_cons_self | with_reducible apply List.mem_cons_of_mem)) <;> fail); rfl) | assumption | exact (Go.RowKit.Hid.out (by assumption))) ?_; clear S; intro g9 w9 z9 S) | ((with_reducible refine gate_load (t := 26) rfl ?_); (first | refine wpList_sload S (by rfl) 26 _ rfl rfl (by (repeat (first | with_reducible exact List.mem_cons_self | with_reducible apply List.mem_cons_of_mem)) <;> fail) _ Try.underlying26 rfl ts26 ?_ | refine wpList_spart S (by rfl) 26 _ rfl rfl (by (repeat (first | with_reducible exact List.mem_cons_self | with_reducible apply List.mem_cons_of_mem)) <;> fail) _ Try.underlying26 rfl ts26 (by decide) _ (by (conv => lhs; simp only [List.drop_succ_cons, List.drop_zero, List.take_succ_cons, List.take_zero, List.set_cons_succ, List.set_cons_zero, List.cons_append, List.nil_append, List.append_nil, List.drop_nil, Nat.reduceAdd]); try exact rfl) ?_)) | ((with_reducible refine gate_load (t := 3) rfl ?_); refine wpList_sload1 S (by rfl) 3 _ rfl rfl (by (repeat (first | with_reducible exact List.mem_cons_self | with_reducible apply List.mem_cons_of_mem)) <;> fail) _ Try.underlying3 rfl _ (by (conv => lhs; simp only [List.getElem?_cons_succ, List.getElem?_cons_zero]); try exact rfl) ?_) | ((with_reducible refine gate_load (t := 4) rfl ?_); refine wpList_sload1 S (by rfl) 4 _ rfl rfl (by (repeat (first | with_reducible exact List.mem_cons_self | with_reducible apply List.mem_cons_of_mem)) <;> fail) _ Try.underlying4 rfl _ (by (conv => lhs; simp only [List.getElem?_cons_succ, List.getElem?_cons_zero]); try exact rfl) ?_) | ((with_reducible refine gate_load (t := 24) rfl ?_); refine wpList_sload1 S (by rfl) 24 _ rfl rfl (by (repeat (first | with_reducible exact List.mem_cons_self | with_reducible apply List.mem_cons_of_mem)) <;> fail) _ Try.underlying24 rfl _ (by (conv => lhs; simp only [List.getElem?_cons_succ, List.getElem?_cons_zero]); try exact rfl) ?_) | ((with_reducible refine gate_load (t := 23) rfl ?_); refine wpList_sload1 S (by rfl) 23 _ rfl rfl (by (repeat (first | with_reducible exact List.mem_cons_self | with_reducible apply List.mem_cons_of_mem)) <;> fail) _ Try.underlying23 rfl _ (by (conv => lhs; simp only [List.getElem?_cons_succ, List.getElem?_cons_zero]); try exact rfl) ?_) | ((with_reducible refine gate_load (t := 22) rfl ?_); refine wpList_sload1 S (by rfl) 22 _ rfl rfl (by (repeat (first | with_reducible exact List.mem_cons_self | with_reducible apply List.mem_cons_of_mem)) <;> fail) _ Try.underlying22 rfl _ (by (conv => lhs; simp only [List.getElem?_cons_succ, List.getElem?_cons_zero]); try exact rfl) ?_))
            go_ret
            exact ⟨by rw [R2.out]; rfl, S.frame⟩
          | true =>
            have R2 := Lib.hid (allr_succ HIN.out HA.out o1)
            have O1 := Lib.hid (show decide (0 ≤ s.got[k]'HIN.out ∧ s.got[k]'HIN.out ≤ 2) = true from o1)
            clear o1
            go_wp2_with (first
              | ((with_reducible refine gate_dst (N := 102) rfl ?_); refine wpList_rowint (by rfl) 3 _ rfl rfl (S.frame.cell G4.out) _ Try.underlying3 rfl ?_)
              | (go_at_call 45; (with_reducible refine (l6In_e _ _ 0 2 O1.out).mono ?_); rintro e w9 ⟨rfl, rfl⟩)
              | ((with_reducible refine gate_box (t := 26) rfl ?_); refine wpList_sbox S (by rfl) 26 _ rfl 7 _ rfl (by first | rfl | (refine' (S.len ?m9).trans ?_; (case m9 => (repeat (first | with_reducible exact List.mem_cons_self | with_reducible apply List.mem_cons_of_mem)) <;> fail); rfl) | assumption | exact (Go.RowKit.Hid.out (by assumption))) ?_; clear S; intro g9 w9 z9 S) | ((with_reducible refine gate_load (t := 26) rfl ?_); (first | refine wpList_sload S (by rfl) 26 _ rfl rfl (by (repeat (first | with_reducible exact List.mem_cons_self | with_reducible apply List.mem_cons_of_mem)) <;> fail) _ Try.underlying26 rfl ts26 ?_ | refine wpList_spart S (by rfl) 26 _ rfl rfl (by (repeat (first | with_reducible exact List.mem_cons_self | with_reducible apply List.mem_cons_of_mem)) <;> fail) _ Try.underlying26 rfl ts26 (by decide) _ (by (conv => lhs; simp only [List.drop_succ_cons, List.drop_zero, List.take_succ_cons, List.take_zero, List.set_cons_succ, List.set_cons_zero, List.cons_append, List.nil_append, List.append_nil, List.drop_nil, Nat.reduceAdd]); try exact rfl) ?_)) | ((with_reducible refine gate_load (t := 3) rfl ?_); refine wpList_sload1 S (by rfl) 3 _ rfl rfl (by (repeat (first | with_reducible exact List.mem_cons_self | with_reducible apply List.mem_cons_of_mem)) <;> fail) _ Try.underlying3 rfl _ (by (conv => lhs; simp only [List.getElem?_cons_succ, List.getElem?_cons_zero]); try exact rfl) ?_) | ((with_reducible refine gate_load (t := 4) rfl ?_); refine wpList_sload1 S (by rfl) 4 _ rfl rfl (by (repeat (first | with_reducible exact List.mem_cons_self | with_reducible apply List.mem_cons_of_mem)) <;> fail) _ Try.underlying4 rfl _ (by (conv => lhs; simp only [List.getElem?_cons_succ, List.getElem?_cons_zero]); try exact rfl) ?_) | ((with_reducible refine gate_load (t := 24) rfl ?_); refine wpList_sload1 S (by rfl) 24 _ rfl rfl (by (repeat (first | with_reducible exact List.mem_cons_self | with_reducible apply List.mem_cons_of_mem)) <;> fail) _ Try.underlying24 rfl _ (by (conv => lhs; simp only [List.getElem?_cons_succ, List.getElem?_cons_zero]); try exact rfl) ?_) | ((with_reducible refine gate_load (t := 23) rfl ?_); refine wpList_sload1 S (by rfl) 23 _ rfl rfl (by (repeat (first | with_reducible exact List.mem_cons_self | with_reducible apply List.mem_cons_of_mem)) <;> fail) _ Try.underlying23 rfl _ (by (conv => lhs; simp only [List.getElem?_cons_succ, List.getElem?_cons_zero]); try exact rfl) ?_) | ((with_reducible refine gate_load (t := 22) rfl ?_); refine wpList_sload1 S (by rfl) 22 _ rfl rfl (by (repeat (first | with_reducible exact List.mem_cons_self | with_reducible apply List.mem_cons_of_mem)) <;> fail) _ Try.underlying22 rfl _ (by (conv => lhs; simp only [List.getElem?_cons_succ, List.getElem?_cons_zero]); try exact rfl) ?_))
            go_roundw
            case rel => exact ⟨k + 1, by omega, by go_num, R2.out, S⟩
            case measure => simp [intOf]; omega
        · obtain rfl : k = 8 := by omega
          have R2 := Lib.hid (show okSt s = wantOk s by rw [R.out, GO.out]; have h := HA.out; rw [List.take_of_length_le (by rw [E4.out]; omega)] at h; rw [h, Bool.and_true])
          clear HA
          by_cases ew : s.way = 4
          · have tw : (s.way == 4) = true := by simpa using ew
            by_cases e5 : s.want = s.vsn + 1
            · have t5 : (s.want == s.vsn + 1) = true := by simpa using e5
              cases e6 : decide (s.want ≤ 9) with
              | true =>
                have R3 := Lib.hid (show okSt s = true by rw [R2.out]; unfold wantOk; rw [if_pos ew, decide_eq_true e5, e6]; rfl)
                clear ew e5
                go_wp2_with (first | ((with_reducible refine gate_box (t := 26) rfl ?_); refine wpList_sbox S (by rfl) 26 _ rfl 7 _ rfl (by first | rfl | (refine' (S.len ?m9).trans ?_; (case m9 => (repeat (first | with_reducible exact List.mem_cons_self | with_reducible apply List.mem_cons_of_mem)) <;> fail); rfl) | assumption | exact (Go.RowKit.Hid.out (by assumption))) ?_; clear S; intro g9 w9 z9 S) | ((with_reducible refine gate_load (t := 26) rfl ?_); (first | refine wpList_sload S (by rfl) 26 _ rfl rfl (by (repeat (first | with_reducible exact List.mem_cons_self | with_reducible apply List.mem_cons_of_mem)) <;> fail) _ Try.underlying26 rfl ts26 ?_ | refine wpList_spart S (by rfl) 26 _ rfl rfl (by (repeat (first | with_reducible exact List.mem_cons_self | with_reducible apply List.mem_cons_of_mem)) <;> fail) _ Try.underlying26 rfl ts26 (by decide) _ (by (conv => lhs; simp only [List.drop_succ_cons, List.drop_zero, List.take_succ_cons, List.take_zero, List.set_cons_succ, List.set_cons_zero, List.cons_append, List.nil_append, List.append_nil, List.drop_nil, Nat.reduceAdd]); try exact rfl) ?_)) | ((with_reducible refine gate_load (t := 3) rfl ?_); refine wpList_sload1 S (by rfl) 3 _ rfl rfl (by (repeat (first | with_reducible exact List.mem_cons_self | with_reducible apply List.mem_cons_of_mem)) <;> fail) _ Try.underlying3 rfl _ (by (conv => lhs; simp only [List.getElem?_cons_succ, List.getElem?_cons_zero]); try exact rfl) ?_) | ((with_reducible refine gate_load (t := 4) rfl ?_); refine wpList_sload1 S (by rfl) 4 _ rfl rfl (by (repeat (first | with_reducible exact List.mem_cons_self | with_reducible apply List.mem_cons_of_mem)) <;> fail) _ Try.underlying4 rfl _ (by (conv => lhs; simp only [List.getElem?_cons_succ, List.getElem?_cons_zero]); try exact rfl) ?_) | ((with_reducible refine gate_load (t := 24) rfl ?_); refine wpList_sload1 S (by rfl) 24 _ rfl rfl (by (repeat (first | with_reducible exact List.mem_cons_self | with_reducible apply List.mem_cons_of_mem)) <;> fail) _ Try.underlying24 rfl _ (by (conv => lhs; simp only [List.getElem?_cons_succ, List.getElem?_cons_zero]); try exact rfl) ?_) | ((with_reducible refine gate_load (t := 23) rfl ?_); refine wpList_sload1 S (by rfl) 23 _ rfl rfl (by (repeat (first | with_reducible exact List.mem_cons_self | with_reducible apply List.mem_cons_of_mem)) <;> fail) _ Try.underlying23 rfl _ (by (conv => lhs; simp only [List.getElem?_cons_succ, List.getElem?_cons_zero]); try exact rfl) ?_) | ((with_reducible refine gate_load (t := 22) rfl ?_); refine wpList_sload1 S (by rfl) 22 _ rfl rfl (by (repeat (first | with_reducible exact List.mem_cons_self | with_reducible apply List.mem_cons_of_mem)) <;> fail) _ Try.underlying22 rfl _ (by (conv => lhs; simp only [List.getElem?_cons_succ, List.getElem?_cons_zero]); try exact rfl) ?_))
                go_ret
                exact ⟨by rw [R3.out]; rfl, S.frame⟩
              | false =>
                have R3 := Lib.hid (show okSt s = false by rw [R2.out]; unfold wantOk; rw [if_pos ew, decide_eq_true e5, e6]; rfl)
                clear ew e5
                go_wp2_with (first | ((with_reducible refine gate_box (t := 26) rfl ?_); refine wpList_sbox S (by rfl) 26 _ rfl 7 _ rfl (by first | rfl | (refine' (S.len ?m9).trans ?_; (case m9 => (repeat (first | with_reducible exact List.mem_cons_self | with_reducible apply List.mem_cons_of_mem)) <;> fail); rfl) | assumption | exact (Go.RowKit.Hid.out (by assumption))) ?_; clear S; intro g9 w9 z9 S) | ((with_reducible refine gate_load (t := 26) rfl ?_); (first | refine wpList_sload S (by rfl) 26 _ rfl rfl (by (repeat (first | with_reducible exact List.mem_cons_self | with_reducible apply List.mem_cons_of_mem)) <;> fail) _ Try.underlying26 rfl ts26 ?_ | refine wpList_spart S (by rfl) 26 _ rfl rfl (by (repeat (first | with_reducible exact List.mem_cons_self | with_reducible apply List.mem_cons_of_mem)) <;> fail) _ Try.underlying26 rfl ts26 (by decide) _ (by (conv => lhs; simp only [List.drop_succ_cons, List.drop_zero, List.take_succ_cons, List.take_zero, List.set_cons_succ, List.set_cons_zero, List.cons_append, List.nil_append, List.append_nil, List.drop_nil, Nat.reduceAdd]); try exact rfl) ?_)) | ((with_reducible refine gate_load (t := 3) rfl ?_); refine wpList_sload1 S (by rfl) 3 _ rfl rfl (by (repeat (first | with_reducible exact List.mem_cons_self | with_reducible apply List.mem_cons_of_mem)) <;> fail) _ Try.underlying3 rfl _ (by (conv => lhs; simp only [List.getElem?_cons_succ, List.getElem?_cons_zero]); try exact rfl) ?_) | ((with_reducible refine gate_load (t := 4) rfl ?_); refine wpList_sload1 S (by rfl) 4 _ rfl rfl (by (repeat (first | with_reducible exact List.mem_cons_self | with_reducible apply List.mem_cons_of_mem)) <;> fail) _ Try.underlying4 rfl _ (by (conv => lhs; simp only [List.getElem?_cons_succ, List.getElem?_cons_zero]); try exact rfl) ?_) | ((with_reducible refine gate_load (t := 24) rfl ?_); refine wpList_sload1 S (by rfl) 24 _ rfl rfl (by (repeat (first | with_reducible exact List.mem_cons_self | with_reducible apply List.mem_cons_of_mem)) <;> fail) _ Try.underlying24 rfl _ (by (conv => lhs; simp only [List.getElem?_cons_succ, List.getElem?_cons_zero]); try exact rfl) ?_) | ((with_reducible refine gate_load (t := 23) rfl ?_); refine wpList_sload1 S (by rfl) 23 _ rfl rfl (by (repeat (first | with_reducible exact List.mem_cons_self | with_reducible apply List.mem_cons_of_mem)) <;> fail) _ Try.underlying23 rfl _ (by (conv => lhs; simp only [List.getElem?_cons_succ, List.getElem?_cons_zero]); try exact rfl) ?_) | ((with_reducible refine gate_load (t := 22) rfl ?_); refine wpList_sload1 S (by rfl) 22 _ rfl rfl (by (repeat (first | with_reducible exact List.mem_cons_self | with_reducible apply List.mem_cons_of_mem)) <;> fail) _ Try.underlying22 rfl _ (by (conv => lhs; simp only [List.getElem?_cons_succ, List.getElem?_cons_zero]); try exact rfl) ?_))
                go_ret
                exact ⟨by rw [R3.out]; rfl, S.frame⟩
            · have t5 : (s.want == s.vsn + 1) = false := by simpa using e5
              have R3 := Lib.hid (show okSt s = false by rw [R2.out]; unfold wantOk; rw [if_pos ew, decide_eq_false e5]; rfl)
              clear ew e5
              go_wp2_with (first | ((with_reducible refine gate_box (t := 26) rfl ?_); refine wpList_sbox S (by rfl) 26 _ rfl 7 _ rfl (by first | rfl | (refine' (S.len ?m9).trans ?_; (case m9 => (repeat (first | with_reducible exact List.mem_cons_self | with_reducible apply List.mem_cons_of_mem)) <;> fail); rfl) | assumption | exact (Go.RowKit.Hid.out (by assumption))) ?_; clear S; intro g9 w9 z9 S) | ((with_reducible refine gate_load (t := 26) rfl ?_); (first | refine wpList_sload S (by rfl) 26 _ rfl rfl (by (repeat (first | with_reducible exact List.mem_cons_self | with_reducible apply List.mem_cons_of_mem)) <;> fail) _ Try.underlying26 rfl ts26 ?_ | refine wpList_spart S (by rfl) 26 _ rfl rfl (by (repeat (first | with_reducible exact List.mem_cons_self | with_reducible apply List.mem_cons_of_mem)) <;> fail) _ Try.underlying26 rfl ts26 (by decide) _ (by (conv => lhs; simp only [List.drop_succ_cons, List.drop_zero, List.take_succ_cons, List.take_zero, List.set_cons_succ, List.set_cons_zero, List.cons_append, List.nil_append, List.append_nil, List.drop_nil, Nat.reduceAdd]); try exact rfl) ?_)) | ((with_reducible refine gate_load (t := 3) rfl ?_); refine wpList_sload1 S (by rfl) 3 _ rfl rfl (by (repeat (first | with_reducible exact List.mem_cons_self | with_reducible apply List.mem_cons_of_mem)) <;> fail) _ Try.underlying3 rfl _ (by (conv => lhs; simp only [List.getElem?_cons_succ, List.getElem?_cons_zero]); try exact rfl) ?_) | ((with_reducible refine gate_load (t := 4) rfl ?_); refine wpList_sload1 S (by rfl) 4 _ rfl rfl (by (repeat (first | with_reducible exact List.mem_cons_self | with_reducible apply List.mem_cons_of_mem)) <;> fail) _ Try.underlying4 rfl _ (by (conv => lhs; simp only [List.getElem?_cons_succ, List.getElem?_cons_zero]); try exact rfl) ?_) | ((with_reducible refine gate_load (t := 24) rfl ?_); refine wpList_sload1 S (by rfl) 24 _ rfl rfl (by (repeat (first | with_reducible exact List.mem_cons_self | with_reducible apply List.mem_cons_of_mem)) <;> fail) _ Try.underlying24 rfl _ (by (conv => lhs; simp only [List.getElem?_cons_succ, List.getElem?_cons_zero]); try exact rfl) ?_) | ((with_reducible refine gate_load (t := 23) rfl ?_); refine wpList_sload1 S (by rfl) 23 _ rfl rfl (by (repeat (first | with_reducible exact List.mem_cons_self | with_reducible apply List.mem_cons_of_mem)) <;> fail) _ Try.underlying23 rfl _ (by (conv => lhs; simp only [List.getElem?_cons_succ, List.getElem?_cons_zero]); try exact rfl) ?_) | ((with_reducible refine gate_load (t := 22) rfl ?_); refine wpList_sload1 S (by rfl) 22 _ rfl rfl (by (repeat (first | with_reducible exact List.mem_cons_self | with_reducible apply List.mem_cons_of_mem)) <;> fail) _ Try.underlying22 rfl _ (by (conv => lhs; simp only [List.getElem?_cons_succ, List.getElem?_cons_zero]); try exact rfl) ?_))
              go_ret
              exact ⟨by rw [R3.out]; rfl, S.frame⟩
          · have tw : (s.way == 4) = false := by simpa using ew
            have R3 := Lib.hid (show okSt s = (s.want == 0) by rw [R2.out]; unfold wantOk; rw [if_neg ew])
            clear ew
            go_wp2_with (first | ((with_reducible refine gate_box (t := 26) rfl ?_); refine wpList_sbox S (by rfl) 26 _ rfl 7 _ rfl (by first | rfl | (refine' (S.len ?m9).trans ?_; (case m9 => (repeat (first | with_reducible exact List.mem_cons_self | with_reducible apply List.mem_cons_of_mem)) <;> fail); rfl) | assumption | exact (Go.RowKit.Hid.out (by assumption))) ?_; clear S; intro g9 w9 z9 S) | ((with_reducible refine gate_load (t := 26) rfl ?_); (first | refine wpList_sload S (by rfl) 26 _ rfl rfl (by (repeat (first | with_reducible exact List.mem_cons_self | with_reducible apply List.mem_cons_of_mem)) <;> fail) _ Try.underlying26 rfl ts26 ?_ | refine wpList_spart S (by rfl) 26 _ rfl rfl (by (repeat (first | with_reducible exact List.mem_cons_self | with_reducible apply List.mem_cons_of_mem)) <;> fail) _ Try.underlying26 rfl ts26 (by decide) _ (by (conv => lhs; simp only [List.drop_succ_cons, List.drop_zero, List.take_succ_cons, List.take_zero, List.set_cons_succ, List.set_cons_zero, List.cons_append, List.nil_append, List.append_nil, List.drop_nil, Nat.reduceAdd]); try exact rfl) ?_)) | ((with_reducible refine gate_load (t := 3) rfl ?_); refine wpList_sload1 S (by rfl) 3 _ rfl rfl (by (repeat (first | with_reducible exact List.mem_cons_self | with_reducible apply List.mem_cons_of_mem)) <;> fail) _ Try.underlying3 rfl _ (by (conv => lhs; simp only [List.getElem?_cons_succ, List.getElem?_cons_zero]); try exact rfl) ?_) | ((with_reducible refine gate_load (t := 4) rfl ?_); refine wpList_sload1 S (by rfl) 4 _ rfl rfl (by (repeat (first | with_reducible exact List.mem_cons_self | with_reducible apply List.mem_cons_of_mem)) <;> fail) _ Try.underlying4 rfl _ (by (conv => lhs; simp only [List.getElem?_cons_succ, List.getElem?_cons_zero]); try exact rfl) ?_) | ((with_reducible refine gate_load (t := 24) rfl ?_); refine wpList_sload1 S (by rfl) 24 _ rfl rfl (by (repeat (first | with_reducible exact List.mem_cons_self | with_reducible apply List.mem_cons_of_mem)) <;> fail) _ Try.underlying24 rfl _ (by (conv => lhs; simp only [List.getElem?_cons_succ, List.getElem?_cons_zero]); try exact rfl) ?_) | ((with_reducible refine gate_load (t := 23) rfl ?_); refine wpList_sload1 S (by rfl) 23 _ rfl rfl (by (repeat (first | with_reducible exact List.mem_cons_self | with_reducible apply List.mem_cons_of_mem)) <;> fail) _ Try.underlying23 rfl _ (by (conv => lhs; simp only [List.getElem?_cons_succ, List.getElem?_cons_zero]); try exact rfl) ?_) | ((with_reducible refine gate_load (t := 22) rfl ?_); refine wpList_sload1 S (by rfl) 22 _ rfl rfl (by (repeat (first | with_reducible exact List.mem_cons_self | with_reducible apply List.mem_cons_of_mem)) <;> fail) _ Try.underlying22 rfl _ (by (conv => lhs; simp only [List.getElem?_cons_succ, List.getElem?_cons_zero]); try exact rfl) ?_))
            go_ret
            exact ⟨by rw [R3.out]; rfl, S.frame⟩
end Go.Proofs.Ythnjambkgldjdaa
