/- The steps of the way: the reference's l11May, the program's tests. -/
import Derived.Test.YthnjambkgldjdaaWay1
namespace Go.Proofs.Ythnjambkgldjdaa
set_option linter.unusedVariables false
set_option linter.unusedSimpArgs false
open Go.RowKit
theorem okSt_nums {s : St} (h : okSt s = true) : (0 ≤ s.way ∧ s.way ≤ 4) ∧ (1 ≤ s.vsn ∧ s.vsn ≤ 9) := by
  simp only [okSt, Bool.and_eq_true, decide_eq_true_eq] at h
  exact ⟨h.1.1.1.1, h.1.1.1.2⟩
set_option maxRecDepth 100000 in
set_option maxHeartbeats 6400000 in
theorem l11May_c (w : World) (s o : St) (c0 c1 : List Value) (h1 : tSt.rd w s c0) (h2 : tSt.rd w o c1) (ok1 : okSt s = true) (ok2 : okSt o = true) (n : Int) : Calls Try.prog 65 #[.agg c0.toArray, .agg c1.toArray, .int .i64 n] w (Ret (.bool (mayL s o n)) w) := by
  have Q := Lib.hid h1
  have Q2 := Lib.hid h2
  obtain ⟨v1, v2, v3, v4, rfl, _⟩ := h1
  obtain ⟨u1, u2, u3, u4, rfl, _⟩ := h2
  have FIN := Lib.hid (fun (W : World) (f : Fr w W) => tSt.fr f Q.out)
  have FIO := Lib.hid (fun (W : World) (f : Fr w W) => tSt.fr f Q2.out)
  have S := Sep.start w
  have HS8 := Lib.hid (show s.live.length ≤ 8 by have := okSt_len ok1; omega)
  have HO8 := Lib.hid (show o.live.length ≤ 8 by have := okSt_len ok2; omega)
  have pw : IntKind.i64.wrap (s.vsn + 1) = s.vsn + 1 := IntWalk.i64_in _ (by have := okSt_nums ok1; omega)
  have hw0 := (okSt_nums ok1).1.1
  clear hw0
  by_cases n1 : n = 1
  · subst n1
    have M := Lib.hid (show mayL s o 1 = (s.way == 0) from rfl)
    clear ok1 ok2
    go_enter Try.func65, Try.ntmps65
    go_wp2_with (first
      | ((with_reducible refine gate_dst (N := 3) rfl ?_); refine aBx S ?_; clear S; intro gS w9 z9 S)
      | ((with_reducible refine gate_dst (N := 4) rfl ?_); refine aBx S ?_; clear S; intro gO w9 z9 S)
      | ((with_reducible refine gate_box rfl ?_); refine aBx S ?_; clear S; intro g9 w9 z9 S) | ((with_reducible refine gate_load rfl ?_); first | refine aLd S ?_ | refine aPt S ?_ | refine aL1 S ?_))
    go_ret
    exact ⟨by rw [M.out]; first | rfl | simp, S.frame⟩
  by_cases n2 : n = 2
  · subst n2
    have M := Lib.hid (show mayL s o 2 = (decide (s.way ≤ 1) && (o.way == 1 || o.way == 2)) from rfl)
    clear ok1 ok2
    cases a1 : decide (s.way ≤ 1) with
    | false =>
      have Ha1 := Lib.hid a1
      go_enter Try.func65, Try.ntmps65
      go_wp2_with (first
      | ((with_reducible refine gate_dst (N := 3) rfl ?_); refine aBx S ?_; clear S; intro gS w9 z9 S)
      | ((with_reducible refine gate_dst (N := 4) rfl ?_); refine aBx S ?_; clear S; intro gO w9 z9 S)
      | ((with_reducible refine gate_box rfl ?_); refine aBx S ?_; clear S; intro g9 w9 z9 S) | ((with_reducible refine gate_load rfl ?_); first | refine aLd S ?_ | refine aPt S ?_ | refine aL1 S ?_))
      go_ret
      exact ⟨by rw [M.out, Ha1.out]; first | rfl | simp, S.frame⟩
    | true =>
      cases a2 : (o.way == 1) with
      | false =>
        have Ha1 := Lib.hid a1
        have Ha2 := Lib.hid a2
        go_enter Try.func65, Try.ntmps65
        go_wp2_with (first
      | ((with_reducible refine gate_dst (N := 3) rfl ?_); refine aBx S ?_; clear S; intro gS w9 z9 S)
      | ((with_reducible refine gate_dst (N := 4) rfl ?_); refine aBx S ?_; clear S; intro gO w9 z9 S)
      | ((with_reducible refine gate_box rfl ?_); refine aBx S ?_; clear S; intro g9 w9 z9 S) | ((with_reducible refine gate_load rfl ?_); first | refine aLd S ?_ | refine aPt S ?_ | refine aL1 S ?_))
        go_ret
        exact ⟨by rw [M.out, Ha1.out, Ha2.out]; first | rfl | simp, S.frame⟩
      | true =>
        have Ha1 := Lib.hid a1
        have Ha2 := Lib.hid a2
        go_enter Try.func65, Try.ntmps65
        go_wp2_with (first
      | ((with_reducible refine gate_dst (N := 3) rfl ?_); refine aBx S ?_; clear S; intro gS w9 z9 S)
      | ((with_reducible refine gate_dst (N := 4) rfl ?_); refine aBx S ?_; clear S; intro gO w9 z9 S)
      | ((with_reducible refine gate_box rfl ?_); refine aBx S ?_; clear S; intro g9 w9 z9 S) | ((with_reducible refine gate_load rfl ?_); first | refine aLd S ?_ | refine aPt S ?_ | refine aL1 S ?_))
        go_ret
        exact ⟨by rw [M.out, Ha1.out, Ha2.out]; first | rfl | simp, S.frame⟩
  by_cases n3 : n = 3
  · subst n3
    have M := Lib.hid (show mayL s o 3 = (s.way == 1 && decide (2 ≤ o.way)) from rfl)
    clear ok1 ok2
    cases a1 : (s.way == 1) with
    | false =>
      have Ha1 := Lib.hid a1
      go_enter Try.func65, Try.ntmps65
      go_wp2_with (first
      | ((with_reducible refine gate_dst (N := 3) rfl ?_); refine aBx S ?_; clear S; intro gS w9 z9 S)
      | ((with_reducible refine gate_dst (N := 4) rfl ?_); refine aBx S ?_; clear S; intro gO w9 z9 S)
      | ((with_reducible refine gate_box rfl ?_); refine aBx S ?_; clear S; intro g9 w9 z9 S) | ((with_reducible refine gate_load rfl ?_); first | refine aLd S ?_ | refine aPt S ?_ | refine aL1 S ?_))
      go_ret
      exact ⟨by rw [M.out, Ha1.out]; first | rfl | simp, S.frame⟩
    | true =>
      have Ha1 := Lib.hid a1
      go_enter Try.func65, Try.ntmps65
      go_wp2_with (first
      | ((with_reducible refine gate_dst (N := 3) rfl ?_); refine aBx S ?_; clear S; intro gS w9 z9 S)
      | ((with_reducible refine gate_dst (N := 4) rfl ?_); refine aBx S ?_; clear S; intro gO w9 z9 S)
      | ((with_reducible refine gate_box rfl ?_); refine aBx S ?_; clear S; intro g9 w9 z9 S) | ((with_reducible refine gate_load rfl ?_); first | refine aLd S ?_ | refine aPt S ?_ | refine aL1 S ?_))
      go_ret
      exact ⟨by rw [M.out, Ha1.out]; first | rfl | simp, S.frame⟩
  by_cases n4 : n = 4
  · subst n4
    have M := Lib.hid (show mayL s o 4 = (s.way == 2 && decide (2 ≤ o.way)) from rfl)
    clear ok1 ok2
    cases a1 : (s.way == 2) with
    | false =>
      have Ha1 := Lib.hid a1
      go_enter Try.func65, Try.ntmps65
      go_wp2_with (first
      | ((with_reducible refine gate_dst (N := 3) rfl ?_); refine aBx S ?_; clear S; intro gS w9 z9 S)
      | ((with_reducible refine gate_dst (N := 4) rfl ?_); refine aBx S ?_; clear S; intro gO w9 z9 S)
      | ((with_reducible refine gate_box rfl ?_); refine aBx S ?_; clear S; intro g9 w9 z9 S) | ((with_reducible refine gate_load rfl ?_); first | refine aLd S ?_ | refine aPt S ?_ | refine aL1 S ?_))
      go_ret
      exact ⟨by rw [M.out, Ha1.out]; first | rfl | simp, S.frame⟩
    | true =>
      have Ha1 := Lib.hid a1
      go_enter Try.func65, Try.ntmps65
      go_wp2_with (first
      | ((with_reducible refine gate_dst (N := 3) rfl ?_); refine aBx S ?_; clear S; intro gS w9 z9 S)
      | ((with_reducible refine gate_dst (N := 4) rfl ?_); refine aBx S ?_; clear S; intro gO w9 z9 S)
      | ((with_reducible refine gate_box rfl ?_); refine aBx S ?_; clear S; intro g9 w9 z9 S) | ((with_reducible refine gate_load rfl ?_); first | refine aLd S ?_ | refine aPt S ?_ | refine aL1 S ?_))
      go_ret
      exact ⟨by rw [M.out, Ha1.out]; first | rfl | simp, S.frame⟩
  by_cases n5 : n = 5
  · subst n5
    have M := Lib.hid (show mayL s o 5 = (s.way == 3 && decide (s.vsn < 9)) from rfl)
    clear ok1 ok2
    cases a1 : (s.way == 3) with
    | false =>
      have Ha1 := Lib.hid a1
      go_enter Try.func65, Try.ntmps65
      go_wp2_with (first
      | ((with_reducible refine gate_dst (N := 3) rfl ?_); refine aBx S ?_; clear S; intro gS w9 z9 S)
      | ((with_reducible refine gate_dst (N := 4) rfl ?_); refine aBx S ?_; clear S; intro gO w9 z9 S)
      | ((with_reducible refine gate_box rfl ?_); refine aBx S ?_; clear S; intro g9 w9 z9 S) | ((with_reducible refine gate_load rfl ?_); first | refine aLd S ?_ | refine aPt S ?_ | refine aL1 S ?_))
      go_ret
      exact ⟨by rw [M.out, Ha1.out]; first | rfl | simp, S.frame⟩
    | true =>
      have Ha1 := Lib.hid a1
      go_enter Try.func65, Try.ntmps65
      go_wp2_with (first
      | ((with_reducible refine gate_dst (N := 3) rfl ?_); refine aBx S ?_; clear S; intro gS w9 z9 S)
      | ((with_reducible refine gate_dst (N := 4) rfl ?_); refine aBx S ?_; clear S; intro gO w9 z9 S)
      | ((with_reducible refine gate_box rfl ?_); refine aBx S ?_; clear S; intro g9 w9 z9 S) | ((with_reducible refine gate_load rfl ?_); first | refine aLd S ?_ | refine aPt S ?_ | refine aL1 S ?_))
      go_ret
      exact ⟨by rw [M.out, Ha1.out]; first | rfl | simp, S.frame⟩
  by_cases n6 : n = 6
  · subst n6
    have M := Lib.hid (show mayL s o 6 = (s.way == 3 && o.way == 4 && o.want == s.vsn + 1) from rfl)
    clear ok1 ok2
    cases a1 : (s.way == 3) with
    | false =>
      have Ha1 := Lib.hid a1
      go_enter Try.func65, Try.ntmps65
      go_wp2_with (first
      | ((with_reducible refine gate_dst (N := 3) rfl ?_); refine aBx S ?_; clear S; intro gS w9 z9 S)
      | ((with_reducible refine gate_dst (N := 4) rfl ?_); refine aBx S ?_; clear S; intro gO w9 z9 S)
      | ((with_reducible refine gate_box rfl ?_); refine aBx S ?_; clear S; intro g9 w9 z9 S) | ((with_reducible refine gate_load rfl ?_); first | refine aLd S ?_ | refine aPt S ?_ | refine aL1 S ?_))
      go_ret
      exact ⟨by rw [M.out, Ha1.out]; first | rfl | simp, S.frame⟩
    | true =>
      cases a2 : (o.way == 4) with
      | false =>
        have Ha1 := Lib.hid a1
        have Ha2 := Lib.hid a2
        go_enter Try.func65, Try.ntmps65
        go_wp2_with (first
      | ((with_reducible refine gate_dst (N := 3) rfl ?_); refine aBx S ?_; clear S; intro gS w9 z9 S)
      | ((with_reducible refine gate_dst (N := 4) rfl ?_); refine aBx S ?_; clear S; intro gO w9 z9 S)
      | ((with_reducible refine gate_box rfl ?_); refine aBx S ?_; clear S; intro g9 w9 z9 S) | ((with_reducible refine gate_load rfl ?_); first | refine aLd S ?_ | refine aPt S ?_ | refine aL1 S ?_))
        go_ret
        exact ⟨by rw [M.out, Ha1.out, Ha2.out]; first | rfl | simp, S.frame⟩
      | true =>
        have Ha1 := Lib.hid a1
        have Ha2 := Lib.hid a2
        go_enter Try.func65, Try.ntmps65
        go_wp2_with (first
      | ((with_reducible refine gate_dst (N := 3) rfl ?_); refine aBx S ?_; clear S; intro gS w9 z9 S)
      | ((with_reducible refine gate_dst (N := 4) rfl ?_); refine aBx S ?_; clear S; intro gO w9 z9 S)
      | ((with_reducible refine gate_box rfl ?_); refine aBx S ?_; clear S; intro g9 w9 z9 S) | ((with_reducible refine gate_load rfl ?_); first | refine aLd S ?_ | refine aPt S ?_ | refine aL1 S ?_))
        go_ret
        exact ⟨by rw [M.out, Ha1.out, Ha2.out]; first | rfl | simp, S.frame⟩
  by_cases n7 : n = 7
  · subst n7
    have M := Lib.hid (show mayL s o 7 = (s.way == 4 && idleV s && ((o.way == 4 && o.want == s.want && idleV o) || o.vsn == s.want)) from rfl)
    clear ok1 ok2
    cases a1 : (s.way == 4) with
    | false =>
      have Ha1 := Lib.hid a1
      go_enter Try.func65, Try.ntmps65
      go_wp2_with (first
      | ((with_reducible refine gate_dst (N := 3) rfl ?_); refine aBx S ?_; clear S; intro gS w9 z9 S)
      | ((with_reducible refine gate_dst (N := 4) rfl ?_); refine aBx S ?_; clear S; intro gO w9 z9 S)
      | (go_at_call 83; (with_reducible refine (l3Live_c _ s _ (FIN.out _ S.frame) HS8.out).mono ?_); rintro e w9 ⟨rfl, f9⟩; replace S := S.fr f9; clear f9)
      | (go_at_call 83; (with_reducible refine (l3Live_c _ o _ (FIO.out _ S.frame) HO8.out).mono ?_); rintro e w9 ⟨rfl, f9⟩; replace S := S.fr f9; clear f9)
      | ((with_reducible refine gate_box rfl ?_); refine aBx S ?_; clear S; intro g9 w9 z9 S) | ((with_reducible refine gate_load rfl ?_); first | refine aLd S ?_ | refine aPt S ?_ | refine aL1 S ?_))
      go_ret
      exact ⟨by rw [M.out, Ha1.out]; first | rfl | simp, S.frame⟩
    | true =>
      cases a2 : idleV s with
      | false =>
        have i2 : ((liveN s : Int) == 0) = false := a2
        have Ha1 := Lib.hid a1
        have Ha2 := Lib.hid a2
        clear a2
        go_enter Try.func65, Try.ntmps65
        go_wp2_with (first
      | ((with_reducible refine gate_dst (N := 3) rfl ?_); refine aBx S ?_; clear S; intro gS w9 z9 S)
      | ((with_reducible refine gate_dst (N := 4) rfl ?_); refine aBx S ?_; clear S; intro gO w9 z9 S)
      | (go_at_call 83; (with_reducible refine (l3Live_c _ s _ (FIN.out _ S.frame) HS8.out).mono ?_); rintro e w9 ⟨rfl, f9⟩; replace S := S.fr f9; clear f9)
      | (go_at_call 83; (with_reducible refine (l3Live_c _ o _ (FIO.out _ S.frame) HO8.out).mono ?_); rintro e w9 ⟨rfl, f9⟩; replace S := S.fr f9; clear f9)
      | ((with_reducible refine gate_box rfl ?_); refine aBx S ?_; clear S; intro g9 w9 z9 S) | ((with_reducible refine gate_load rfl ?_); first | refine aLd S ?_ | refine aPt S ?_ | refine aL1 S ?_))
        go_ret
        exact ⟨by rw [M.out, Ha1.out, Ha2.out]; first | rfl | simp, S.frame⟩
      | true =>
        have i2 : ((liveN s : Int) == 0) = true := a2
        cases a3 : (o.way == 4) with
        | false =>
          have Ha1 := Lib.hid a1
          have Ha2 := Lib.hid a2
          have Ha3 := Lib.hid a3
          clear a2
          go_enter Try.func65, Try.ntmps65
          go_wp2_with (first
      | ((with_reducible refine gate_dst (N := 3) rfl ?_); refine aBx S ?_; clear S; intro gS w9 z9 S)
      | ((with_reducible refine gate_dst (N := 4) rfl ?_); refine aBx S ?_; clear S; intro gO w9 z9 S)
      | (go_at_call 83; (with_reducible refine (l3Live_c _ s _ (FIN.out _ S.frame) HS8.out).mono ?_); rintro e w9 ⟨rfl, f9⟩; replace S := S.fr f9; clear f9)
      | (go_at_call 83; (with_reducible refine (l3Live_c _ o _ (FIO.out _ S.frame) HO8.out).mono ?_); rintro e w9 ⟨rfl, f9⟩; replace S := S.fr f9; clear f9)
      | ((with_reducible refine gate_box rfl ?_); refine aBx S ?_; clear S; intro g9 w9 z9 S) | ((with_reducible refine gate_load rfl ?_); first | refine aLd S ?_ | refine aPt S ?_ | refine aL1 S ?_))
          go_ret
          exact ⟨by rw [M.out, Ha1.out, Ha2.out, Ha3.out]; first | rfl | simp, S.frame⟩
        | true =>
          cases a4 : (o.want == s.want) with
          | false =>
            have Ha1 := Lib.hid a1
            have Ha2 := Lib.hid a2
            have Ha3 := Lib.hid a3
            have Ha4 := Lib.hid a4
            clear a2
            go_enter Try.func65, Try.ntmps65
            go_wp2_with (first
      | ((with_reducible refine gate_dst (N := 3) rfl ?_); refine aBx S ?_; clear S; intro gS w9 z9 S)
      | ((with_reducible refine gate_dst (N := 4) rfl ?_); refine aBx S ?_; clear S; intro gO w9 z9 S)
      | (go_at_call 83; (with_reducible refine (l3Live_c _ s _ (FIN.out _ S.frame) HS8.out).mono ?_); rintro e w9 ⟨rfl, f9⟩; replace S := S.fr f9; clear f9)
      | (go_at_call 83; (with_reducible refine (l3Live_c _ o _ (FIO.out _ S.frame) HO8.out).mono ?_); rintro e w9 ⟨rfl, f9⟩; replace S := S.fr f9; clear f9)
      | ((with_reducible refine gate_box rfl ?_); refine aBx S ?_; clear S; intro g9 w9 z9 S) | ((with_reducible refine gate_load rfl ?_); first | refine aLd S ?_ | refine aPt S ?_ | refine aL1 S ?_))
            go_ret
            exact ⟨by rw [M.out, Ha1.out, Ha2.out, Ha3.out, Ha4.out]; first | rfl | simp, S.frame⟩
          | true =>
            cases a5 : idleV o with
            | false =>
              have i5 : ((liveN o : Int) == 0) = false := a5
              have Ha1 := Lib.hid a1
              have Ha2 := Lib.hid a2
              have Ha3 := Lib.hid a3
              have Ha4 := Lib.hid a4
              have Ha5 := Lib.hid a5
              clear a2 a5
              go_enter Try.func65, Try.ntmps65
              go_wp2_with (first
      | ((with_reducible refine gate_dst (N := 3) rfl ?_); refine aBx S ?_; clear S; intro gS w9 z9 S)
      | ((with_reducible refine gate_dst (N := 4) rfl ?_); refine aBx S ?_; clear S; intro gO w9 z9 S)
      | (go_at_call 83; (with_reducible refine (l3Live_c _ s _ (FIN.out _ S.frame) HS8.out).mono ?_); rintro e w9 ⟨rfl, f9⟩; replace S := S.fr f9; clear f9)
      | (go_at_call 83; (with_reducible refine (l3Live_c _ o _ (FIO.out _ S.frame) HO8.out).mono ?_); rintro e w9 ⟨rfl, f9⟩; replace S := S.fr f9; clear f9)
      | ((with_reducible refine gate_box rfl ?_); refine aBx S ?_; clear S; intro g9 w9 z9 S) | ((with_reducible refine gate_load rfl ?_); first | refine aLd S ?_ | refine aPt S ?_ | refine aL1 S ?_))
              go_ret
              exact ⟨by rw [M.out, Ha1.out, Ha2.out, Ha3.out, Ha4.out, Ha5.out]; first | rfl | simp, S.frame⟩
            | true =>
              have i5 : ((liveN o : Int) == 0) = true := a5
              have Ha1 := Lib.hid a1
              have Ha2 := Lib.hid a2
              have Ha3 := Lib.hid a3
              have Ha4 := Lib.hid a4
              have Ha5 := Lib.hid a5
              clear a2 a5
              go_enter Try.func65, Try.ntmps65
              go_wp2_with (first
      | ((with_reducible refine gate_dst (N := 3) rfl ?_); refine aBx S ?_; clear S; intro gS w9 z9 S)
      | ((with_reducible refine gate_dst (N := 4) rfl ?_); refine aBx S ?_; clear S; intro gO w9 z9 S)
      | (go_at_call 83; (with_reducible refine (l3Live_c _ s _ (FIN.out _ S.frame) HS8.out).mono ?_); rintro e w9 ⟨rfl, f9⟩; replace S := S.fr f9; clear f9)
      | (go_at_call 83; (with_reducible refine (l3Live_c _ o _ (FIO.out _ S.frame) HO8.out).mono ?_); rintro e w9 ⟨rfl, f9⟩; replace S := S.fr f9; clear f9)
      | ((with_reducible refine gate_box rfl ?_); refine aBx S ?_; clear S; intro g9 w9 z9 S) | ((with_reducible refine gate_load rfl ?_); first | refine aLd S ?_ | refine aPt S ?_ | refine aL1 S ?_))
              go_ret
              exact ⟨by rw [M.out, Ha1.out, Ha2.out, Ha3.out, Ha4.out, Ha5.out]; first | rfl | simp, S.frame⟩
  have M := Lib.hid (show mayL s o n = false by unfold mayL; rw [if_neg n1, if_neg n2, if_neg n3, if_neg n4, if_neg n5, if_neg n6, if_neg n7])
  have b1 : (n == 1) = false := by simpa using n1
  have b2 : (n == 2) = false := by simpa using n2
  have b3 : (n == 3) = false := by simpa using n3
  have b4 : (n == 4) = false := by simpa using n4
  have b5 : (n == 5) = false := by simpa using n5
  have b6 : (n == 6) = false := by simpa using n6
  have b7 : (n == 7) = false := by simpa using n7
  clear n1 n2 n3 n4 n5 n6 n7 ok1 ok2 pw
  go_enter Try.func65, Try.ntmps65
  go_wp2_with (first
      | ((with_reducible refine gate_dst (N := 3) rfl ?_); refine aBx S ?_; clear S; intro gS w9 z9 S)
      | ((with_reducible refine gate_dst (N := 4) rfl ?_); refine aBx S ?_; clear S; intro gO w9 z9 S)
      | ((with_reducible refine gate_box rfl ?_); refine aBx S ?_; clear S; intro g9 w9 z9 S) | ((with_reducible refine gate_load rfl ?_); first | refine aLd S ?_ | refine aPt S ?_ | refine aL1 S ?_))
  go_ret
  exact ⟨by rw [M.out]; rfl, S.frame⟩
set_option maxRecDepth 100000 in
set_option maxHeartbeats 3200000 in
theorem way1_c (w : World) (s o : St) (c0 c1 : List Value) (h1 : tSt.rd w s c0) (h2 : tSt.rd w o c1) (ok1 : okSt s = true) (ok2 : okSt o = true) : Calls Try.prog 66 #[.agg c0.toArray, .agg c1.toArray] w (Ret (.bool (mayL s o 1)) w) := by
  have Q := Lib.hid h1
  have Q2 := Lib.hid h2
  obtain ⟨v1, v2, v3, v4, rfl, _⟩ := h1
  obtain ⟨u1, u2, u3, u4, rfl, _⟩ := h2
  have FIN := Lib.hid (fun (W : World) (f : Fr w W) => tSt.fr f Q.out)
  have FIO := Lib.hid (fun (W : World) (f : Fr w W) => tSt.fr f Q2.out)
  have S := Sep.start w
  have HS8 := Lib.hid (show s.live.length ≤ 8 by have := okSt_len ok1; omega)
  have HO8 := Lib.hid (show o.live.length ≤ 8 by have := okSt_len ok2; omega)
  have pw : IntKind.i64.wrap (s.vsn + 1) = s.vsn + 1 := IntWalk.i64_in _ (by have := okSt_nums ok1; omega)
  have hw0 := (okSt_nums ok1).1.1
  have M := Lib.hid (show mayL s o 1 = (s.way == 0) from rfl)
  clear ok1 ok2 hw0
  go_enter Try.func66, Try.ntmps66
  go_wp2_with (first
      | ((with_reducible refine gate_dst (N := 2) rfl ?_); refine aBx S ?_; clear S; intro gS w9 z9 S)
      | ((with_reducible refine gate_dst (N := 3) rfl ?_); refine aBx S ?_; clear S; intro gO w9 z9 S)
      | ((with_reducible refine gate_box rfl ?_); refine aBx S ?_; clear S; intro g9 w9 z9 S) | ((with_reducible refine gate_load rfl ?_); first | refine aLd S ?_ | refine aPt S ?_ | refine aL1 S ?_))
  go_ret
  exact ⟨by rw [M.out]; first | rfl | simp, S.frame⟩
set_option maxRecDepth 100000 in
set_option maxHeartbeats 3200000 in
theorem way2_c (w : World) (s o : St) (c0 c1 : List Value) (h1 : tSt.rd w s c0) (h2 : tSt.rd w o c1) (ok1 : okSt s = true) (ok2 : okSt o = true) : Calls Try.prog 68 #[.agg c0.toArray, .agg c1.toArray] w (Ret (.bool (mayL s o 2)) w) := by
  have Q := Lib.hid h1
  have Q2 := Lib.hid h2
  obtain ⟨v1, v2, v3, v4, rfl, _⟩ := h1
  obtain ⟨u1, u2, u3, u4, rfl, _⟩ := h2
  have FIN := Lib.hid (fun (W : World) (f : Fr w W) => tSt.fr f Q.out)
  have FIO := Lib.hid (fun (W : World) (f : Fr w W) => tSt.fr f Q2.out)
  have S := Sep.start w
  have HS8 := Lib.hid (show s.live.length ≤ 8 by have := okSt_len ok1; omega)
  have HO8 := Lib.hid (show o.live.length ≤ 8 by have := okSt_len ok2; omega)
  have pw : IntKind.i64.wrap (s.vsn + 1) = s.vsn + 1 := IntWalk.i64_in _ (by have := okSt_nums ok1; omega)
  have hw0 := (okSt_nums ok1).1.1
  have M := Lib.hid (show mayL s o 2 = (decide (s.way ≤ 1) && (o.way == 1 || o.way == 2)) from rfl)
  have E := Lib.hid (show decide (s.way ≤ 1) = (s.way == 0 || s.way == 1) by
    by_cases e0 : s.way = 0
    · simp [e0]
    by_cases e1 : s.way = 1
    · simp [e1]
    have : ¬ s.way ≤ 1 := by omega
    simp [e0, e1, this])
  clear ok1 ok2 hw0
  cases a1 : (s.way == 0) with
  | false =>
    cases a2 : (s.way == 1) with
    | false =>
      have Ha1 := Lib.hid a1
      have Ha2 := Lib.hid a2
      go_enter Try.func68, Try.ntmps68
      go_wp2_with (first
      | ((with_reducible refine gate_dst (N := 2) rfl ?_); refine aBx S ?_; clear S; intro gS w9 z9 S)
      | ((with_reducible refine gate_dst (N := 3) rfl ?_); refine aBx S ?_; clear S; intro gO w9 z9 S)
      | ((with_reducible refine gate_box rfl ?_); refine aBx S ?_; clear S; intro g9 w9 z9 S) | ((with_reducible refine gate_load rfl ?_); first | refine aLd S ?_ | refine aPt S ?_ | refine aL1 S ?_))
      go_ret
      exact ⟨by rw [M.out, E.out, Ha1.out, Ha2.out]; first | rfl | simp, S.frame⟩
    | true =>
      cases a3 : (o.way == 1) with
      | false =>
        have Ha1 := Lib.hid a1
        have Ha2 := Lib.hid a2
        have Ha3 := Lib.hid a3
        go_enter Try.func68, Try.ntmps68
        go_wp2_with (first
      | ((with_reducible refine gate_dst (N := 2) rfl ?_); refine aBx S ?_; clear S; intro gS w9 z9 S)
      | ((with_reducible refine gate_dst (N := 3) rfl ?_); refine aBx S ?_; clear S; intro gO w9 z9 S)
      | ((with_reducible refine gate_box rfl ?_); refine aBx S ?_; clear S; intro g9 w9 z9 S) | ((with_reducible refine gate_load rfl ?_); first | refine aLd S ?_ | refine aPt S ?_ | refine aL1 S ?_))
        go_ret
        exact ⟨by rw [M.out, E.out, Ha1.out, Ha2.out, Ha3.out]; first | rfl | simp, S.frame⟩
      | true =>
        have Ha1 := Lib.hid a1
        have Ha2 := Lib.hid a2
        have Ha3 := Lib.hid a3
        go_enter Try.func68, Try.ntmps68
        go_wp2_with (first
      | ((with_reducible refine gate_dst (N := 2) rfl ?_); refine aBx S ?_; clear S; intro gS w9 z9 S)
      | ((with_reducible refine gate_dst (N := 3) rfl ?_); refine aBx S ?_; clear S; intro gO w9 z9 S)
      | ((with_reducible refine gate_box rfl ?_); refine aBx S ?_; clear S; intro g9 w9 z9 S) | ((with_reducible refine gate_load rfl ?_); first | refine aLd S ?_ | refine aPt S ?_ | refine aL1 S ?_))
        go_ret
        exact ⟨by rw [M.out, E.out, Ha1.out, Ha2.out, Ha3.out]; first | rfl | simp, S.frame⟩
  | true =>
    cases a2 : (o.way == 1) with
    | false =>
      have Ha1 := Lib.hid a1
      have Ha2 := Lib.hid a2
      go_enter Try.func68, Try.ntmps68
      go_wp2_with (first
      | ((with_reducible refine gate_dst (N := 2) rfl ?_); refine aBx S ?_; clear S; intro gS w9 z9 S)
      | ((with_reducible refine gate_dst (N := 3) rfl ?_); refine aBx S ?_; clear S; intro gO w9 z9 S)
      | ((with_reducible refine gate_box rfl ?_); refine aBx S ?_; clear S; intro g9 w9 z9 S) | ((with_reducible refine gate_load rfl ?_); first | refine aLd S ?_ | refine aPt S ?_ | refine aL1 S ?_))
      go_ret
      exact ⟨by rw [M.out, E.out, Ha1.out, Ha2.out]; first | rfl | simp, S.frame⟩
    | true =>
      have Ha1 := Lib.hid a1
      have Ha2 := Lib.hid a2
      go_enter Try.func68, Try.ntmps68
      go_wp2_with (first
      | ((with_reducible refine gate_dst (N := 2) rfl ?_); refine aBx S ?_; clear S; intro gS w9 z9 S)
      | ((with_reducible refine gate_dst (N := 3) rfl ?_); refine aBx S ?_; clear S; intro gO w9 z9 S)
      | ((with_reducible refine gate_box rfl ?_); refine aBx S ?_; clear S; intro g9 w9 z9 S) | ((with_reducible refine gate_load rfl ?_); first | refine aLd S ?_ | refine aPt S ?_ | refine aL1 S ?_))
      go_ret
      exact ⟨by rw [M.out, E.out, Ha1.out, Ha2.out]; first | rfl | simp, S.frame⟩
set_option maxRecDepth 100000 in
set_option maxHeartbeats 3200000 in
theorem way3_c (w : World) (s o : St) (c0 c1 : List Value) (h1 : tSt.rd w s c0) (h2 : tSt.rd w o c1) (ok1 : okSt s = true) (ok2 : okSt o = true) : Calls Try.prog 70 #[.agg c0.toArray, .agg c1.toArray] w (Ret (.bool (mayL s o 3)) w) := by
  have Q := Lib.hid h1
  have Q2 := Lib.hid h2
  obtain ⟨v1, v2, v3, v4, rfl, _⟩ := h1
  obtain ⟨u1, u2, u3, u4, rfl, _⟩ := h2
  have FIN := Lib.hid (fun (W : World) (f : Fr w W) => tSt.fr f Q.out)
  have FIO := Lib.hid (fun (W : World) (f : Fr w W) => tSt.fr f Q2.out)
  have S := Sep.start w
  have HS8 := Lib.hid (show s.live.length ≤ 8 by have := okSt_len ok1; omega)
  have HO8 := Lib.hid (show o.live.length ≤ 8 by have := okSt_len ok2; omega)
  have pw : IntKind.i64.wrap (s.vsn + 1) = s.vsn + 1 := IntWalk.i64_in _ (by have := okSt_nums ok1; omega)
  have hw0 := (okSt_nums ok1).1.1
  have M := Lib.hid (show mayL s o 3 = (s.way == 1 && decide (2 ≤ o.way)) from rfl)
  clear ok1 ok2 hw0
  cases a1 : (s.way == 1) with
  | false =>
    have Ha1 := Lib.hid a1
    go_enter Try.func70, Try.ntmps70
    go_wp2_with (first
      | ((with_reducible refine gate_dst (N := 2) rfl ?_); refine aBx S ?_; clear S; intro gS w9 z9 S)
      | ((with_reducible refine gate_dst (N := 3) rfl ?_); refine aBx S ?_; clear S; intro gO w9 z9 S)
      | ((with_reducible refine gate_box rfl ?_); refine aBx S ?_; clear S; intro g9 w9 z9 S) | ((with_reducible refine gate_load rfl ?_); first | refine aLd S ?_ | refine aPt S ?_ | refine aL1 S ?_))
    go_ret
    exact ⟨by rw [M.out, Ha1.out]; first | rfl | simp, S.frame⟩
  | true =>
    have Ha1 := Lib.hid a1
    go_enter Try.func70, Try.ntmps70
    go_wp2_with (first
      | ((with_reducible refine gate_dst (N := 2) rfl ?_); refine aBx S ?_; clear S; intro gS w9 z9 S)
      | ((with_reducible refine gate_dst (N := 3) rfl ?_); refine aBx S ?_; clear S; intro gO w9 z9 S)
      | ((with_reducible refine gate_box rfl ?_); refine aBx S ?_; clear S; intro g9 w9 z9 S) | ((with_reducible refine gate_load rfl ?_); first | refine aLd S ?_ | refine aPt S ?_ | refine aL1 S ?_))
    go_ret
    exact ⟨by rw [M.out, Ha1.out]; first | rfl | simp, S.frame⟩
set_option maxRecDepth 100000 in
set_option maxHeartbeats 3200000 in
theorem way4_c (w : World) (s o : St) (c0 c1 : List Value) (h1 : tSt.rd w s c0) (h2 : tSt.rd w o c1) (ok1 : okSt s = true) (ok2 : okSt o = true) : Calls Try.prog 72 #[.agg c0.toArray, .agg c1.toArray] w (Ret (.bool (mayL s o 4)) w) := by
  have Q := Lib.hid h1
  have Q2 := Lib.hid h2
  obtain ⟨v1, v2, v3, v4, rfl, _⟩ := h1
  obtain ⟨u1, u2, u3, u4, rfl, _⟩ := h2
  have FIN := Lib.hid (fun (W : World) (f : Fr w W) => tSt.fr f Q.out)
  have FIO := Lib.hid (fun (W : World) (f : Fr w W) => tSt.fr f Q2.out)
  have S := Sep.start w
  have HS8 := Lib.hid (show s.live.length ≤ 8 by have := okSt_len ok1; omega)
  have HO8 := Lib.hid (show o.live.length ≤ 8 by have := okSt_len ok2; omega)
  have pw : IntKind.i64.wrap (s.vsn + 1) = s.vsn + 1 := IntWalk.i64_in _ (by have := okSt_nums ok1; omega)
  have hw0 := (okSt_nums ok1).1.1
  have M := Lib.hid (show mayL s o 4 = (s.way == 2 && decide (2 ≤ o.way)) from rfl)
  clear ok1 ok2 hw0
  cases a1 : (s.way == 2) with
  | false =>
    have Ha1 := Lib.hid a1
    go_enter Try.func72, Try.ntmps72
    go_wp2_with (first
      | ((with_reducible refine gate_dst (N := 2) rfl ?_); refine aBx S ?_; clear S; intro gS w9 z9 S)
      | ((with_reducible refine gate_dst (N := 3) rfl ?_); refine aBx S ?_; clear S; intro gO w9 z9 S)
      | ((with_reducible refine gate_box rfl ?_); refine aBx S ?_; clear S; intro g9 w9 z9 S) | ((with_reducible refine gate_load rfl ?_); first | refine aLd S ?_ | refine aPt S ?_ | refine aL1 S ?_))
    go_ret
    exact ⟨by rw [M.out, Ha1.out]; first | rfl | simp, S.frame⟩
  | true =>
    have Ha1 := Lib.hid a1
    go_enter Try.func72, Try.ntmps72
    go_wp2_with (first
      | ((with_reducible refine gate_dst (N := 2) rfl ?_); refine aBx S ?_; clear S; intro gS w9 z9 S)
      | ((with_reducible refine gate_dst (N := 3) rfl ?_); refine aBx S ?_; clear S; intro gO w9 z9 S)
      | ((with_reducible refine gate_box rfl ?_); refine aBx S ?_; clear S; intro g9 w9 z9 S) | ((with_reducible refine gate_load rfl ?_); first | refine aLd S ?_ | refine aPt S ?_ | refine aL1 S ?_))
    go_ret
    exact ⟨by rw [M.out, Ha1.out]; first | rfl | simp, S.frame⟩
set_option maxRecDepth 100000 in
set_option maxHeartbeats 3200000 in
theorem way5_c (w : World) (s o : St) (c0 c1 : List Value) (h1 : tSt.rd w s c0) (h2 : tSt.rd w o c1) (ok1 : okSt s = true) (ok2 : okSt o = true) : Calls Try.prog 74 #[.agg c0.toArray, .agg c1.toArray] w (Ret (.bool (mayL s o 5)) w) := by
  have Q := Lib.hid h1
  have Q2 := Lib.hid h2
  obtain ⟨v1, v2, v3, v4, rfl, _⟩ := h1
  obtain ⟨u1, u2, u3, u4, rfl, _⟩ := h2
  have FIN := Lib.hid (fun (W : World) (f : Fr w W) => tSt.fr f Q.out)
  have FIO := Lib.hid (fun (W : World) (f : Fr w W) => tSt.fr f Q2.out)
  have S := Sep.start w
  have HS8 := Lib.hid (show s.live.length ≤ 8 by have := okSt_len ok1; omega)
  have HO8 := Lib.hid (show o.live.length ≤ 8 by have := okSt_len ok2; omega)
  have pw : IntKind.i64.wrap (s.vsn + 1) = s.vsn + 1 := IntWalk.i64_in _ (by have := okSt_nums ok1; omega)
  have hw0 := (okSt_nums ok1).1.1
  have M := Lib.hid (show mayL s o 5 = (s.way == 3 && decide (s.vsn < 9)) from rfl)
  clear ok1 ok2 hw0
  cases a1 : (s.way == 3) with
  | false =>
    have Ha1 := Lib.hid a1
    go_enter Try.func74, Try.ntmps74
    go_wp2_with (first
      | ((with_reducible refine gate_dst (N := 2) rfl ?_); refine aBx S ?_; clear S; intro gS w9 z9 S)
      | ((with_reducible refine gate_dst (N := 3) rfl ?_); refine aBx S ?_; clear S; intro gO w9 z9 S)
      | ((with_reducible refine gate_box rfl ?_); refine aBx S ?_; clear S; intro g9 w9 z9 S) | ((with_reducible refine gate_load rfl ?_); first | refine aLd S ?_ | refine aPt S ?_ | refine aL1 S ?_))
    go_ret
    exact ⟨by rw [M.out, Ha1.out]; first | rfl | simp, S.frame⟩
  | true =>
    have Ha1 := Lib.hid a1
    go_enter Try.func74, Try.ntmps74
    go_wp2_with (first
      | ((with_reducible refine gate_dst (N := 2) rfl ?_); refine aBx S ?_; clear S; intro gS w9 z9 S)
      | ((with_reducible refine gate_dst (N := 3) rfl ?_); refine aBx S ?_; clear S; intro gO w9 z9 S)
      | ((with_reducible refine gate_box rfl ?_); refine aBx S ?_; clear S; intro g9 w9 z9 S) | ((with_reducible refine gate_load rfl ?_); first | refine aLd S ?_ | refine aPt S ?_ | refine aL1 S ?_))
    go_ret
    exact ⟨by rw [M.out, Ha1.out]; first | rfl | simp, S.frame⟩
set_option maxRecDepth 100000 in
set_option maxHeartbeats 3200000 in
theorem way6_c (w : World) (s o : St) (c0 c1 : List Value) (h1 : tSt.rd w s c0) (h2 : tSt.rd w o c1) (ok1 : okSt s = true) (ok2 : okSt o = true) : Calls Try.prog 76 #[.agg c0.toArray, .agg c1.toArray] w (Ret (.bool (mayL s o 6)) w) := by
  have Q := Lib.hid h1
  have Q2 := Lib.hid h2
  obtain ⟨v1, v2, v3, v4, rfl, _⟩ := h1
  obtain ⟨u1, u2, u3, u4, rfl, _⟩ := h2
  have FIN := Lib.hid (fun (W : World) (f : Fr w W) => tSt.fr f Q.out)
  have FIO := Lib.hid (fun (W : World) (f : Fr w W) => tSt.fr f Q2.out)
  have S := Sep.start w
  have HS8 := Lib.hid (show s.live.length ≤ 8 by have := okSt_len ok1; omega)
  have HO8 := Lib.hid (show o.live.length ≤ 8 by have := okSt_len ok2; omega)
  have pw : IntKind.i64.wrap (s.vsn + 1) = s.vsn + 1 := IntWalk.i64_in _ (by have := okSt_nums ok1; omega)
  have hw0 := (okSt_nums ok1).1.1
  have M := Lib.hid (show mayL s o 6 = (s.way == 3 && o.way == 4 && o.want == s.vsn + 1) from rfl)
  clear ok1 ok2 hw0
  cases a1 : (s.way == 3) with
  | false =>
    have Ha1 := Lib.hid a1
    go_enter Try.func76, Try.ntmps76
    go_wp2_with (first
      | ((with_reducible refine gate_dst (N := 2) rfl ?_); refine aBx S ?_; clear S; intro gS w9 z9 S)
      | ((with_reducible refine gate_dst (N := 3) rfl ?_); refine aBx S ?_; clear S; intro gO w9 z9 S)
      | ((with_reducible refine gate_box rfl ?_); refine aBx S ?_; clear S; intro g9 w9 z9 S) | ((with_reducible refine gate_load rfl ?_); first | refine aLd S ?_ | refine aPt S ?_ | refine aL1 S ?_))
    go_ret
    exact ⟨by rw [M.out, Ha1.out]; first | rfl | simp, S.frame⟩
  | true =>
    cases a2 : (o.way == 4) with
    | false =>
      have Ha1 := Lib.hid a1
      have Ha2 := Lib.hid a2
      go_enter Try.func76, Try.ntmps76
      go_wp2_with (first
      | ((with_reducible refine gate_dst (N := 2) rfl ?_); refine aBx S ?_; clear S; intro gS w9 z9 S)
      | ((with_reducible refine gate_dst (N := 3) rfl ?_); refine aBx S ?_; clear S; intro gO w9 z9 S)
      | ((with_reducible refine gate_box rfl ?_); refine aBx S ?_; clear S; intro g9 w9 z9 S) | ((with_reducible refine gate_load rfl ?_); first | refine aLd S ?_ | refine aPt S ?_ | refine aL1 S ?_))
      go_ret
      exact ⟨by rw [M.out, Ha1.out, Ha2.out]; first | rfl | simp, S.frame⟩
    | true =>
      have Ha1 := Lib.hid a1
      have Ha2 := Lib.hid a2
      go_enter Try.func76, Try.ntmps76
      go_wp2_with (first
      | ((with_reducible refine gate_dst (N := 2) rfl ?_); refine aBx S ?_; clear S; intro gS w9 z9 S)
      | ((with_reducible refine gate_dst (N := 3) rfl ?_); refine aBx S ?_; clear S; intro gO w9 z9 S)
      | ((with_reducible refine gate_box rfl ?_); refine aBx S ?_; clear S; intro g9 w9 z9 S) | ((with_reducible refine gate_load rfl ?_); first | refine aLd S ?_ | refine aPt S ?_ | refine aL1 S ?_))
      go_ret
      exact ⟨by rw [M.out, Ha1.out, Ha2.out]; first | rfl | simp, S.frame⟩
set_option maxRecDepth 100000 in
set_option maxHeartbeats 3200000 in
theorem way7_c (w : World) (s o : St) (c0 c1 : List Value) (h1 : tSt.rd w s c0) (h2 : tSt.rd w o c1) (ok1 : okSt s = true) (ok2 : okSt o = true) : Calls Try.prog 77 #[.agg c0.toArray, .agg c1.toArray] w (Ret (.bool (mayL s o 7)) w) := by
  have Q := Lib.hid h1
  have Q2 := Lib.hid h2
  obtain ⟨v1, v2, v3, v4, rfl, _⟩ := h1
  obtain ⟨u1, u2, u3, u4, rfl, _⟩ := h2
  have FIN := Lib.hid (fun (W : World) (f : Fr w W) => tSt.fr f Q.out)
  have FIO := Lib.hid (fun (W : World) (f : Fr w W) => tSt.fr f Q2.out)
  have S := Sep.start w
  have HS8 := Lib.hid (show s.live.length ≤ 8 by have := okSt_len ok1; omega)
  have HO8 := Lib.hid (show o.live.length ≤ 8 by have := okSt_len ok2; omega)
  have pw : IntKind.i64.wrap (s.vsn + 1) = s.vsn + 1 := IntWalk.i64_in _ (by have := okSt_nums ok1; omega)
  have hw0 := (okSt_nums ok1).1.1
  have M := Lib.hid (show mayL s o 7 = (s.way == 4 && idleV s && ((o.way == 4 && o.want == s.want && idleV o) || o.vsn == s.want)) from rfl)
  clear ok1 ok2 hw0
  have NE := Lib.hid (show ∀ b : Bool, (s.way == 4) = b → (s.way != 4) = !b by intro b h; rw [← h]; rfl)
  cases a1 : (s.way == 4) with
  | false =>
    have Ha1 := Lib.hid a1
    have nq : (s.way != 4) = _ := NE.out _ a1
    simp only [Bool.not_true, Bool.not_false] at nq
    go_enter Try.func77, Try.ntmps77
    go_wp2_with (first
      | ((with_reducible refine gate_dst (N := 2) rfl ?_); refine aBx S ?_; clear S; intro gS w9 z9 S)
      | ((with_reducible refine gate_dst (N := 3) rfl ?_); refine aBx S ?_; clear S; intro gO w9 z9 S)
      | ((with_reducible refine gate_box rfl ?_); refine aBx S ?_; clear S; intro g9 w9 z9 S) | ((with_reducible refine gate_load rfl ?_); first | refine aLd S ?_ | refine aPt S ?_ | refine aL1 S ?_))
    go_ret
    exact ⟨by rw [M.out, Ha1.out]; first | rfl | simp, S.frame⟩
  | true =>
    cases a2 : idleV s with
    | false =>
      have i2 : ((liveN s : Int) == 0) = false := a2
      have Ha1 := Lib.hid a1
      have Ha2 := Lib.hid a2
      have nq : (s.way != 4) = _ := NE.out _ a1
      simp only [Bool.not_true, Bool.not_false] at nq
      clear i2
      go_enter Try.func77, Try.ntmps77
      go_wp2_with (first
      | ((with_reducible refine gate_dst (N := 2) rfl ?_); refine aBx S ?_; clear S; intro gS w9 z9 S)
      | ((with_reducible refine gate_dst (N := 3) rfl ?_); refine aBx S ?_; clear S; intro gO w9 z9 S)
      | (go_at_call 84; (with_reducible refine (wayIdle_c _ s _ (FIN.out _ S.frame) HS8.out).mono ?_); rintro e w9 ⟨rfl, f9⟩; rw [Ha2.out]; replace S := S.fr f9; clear f9)
      | ((with_reducible refine gate_box rfl ?_); refine aBx S ?_; clear S; intro g9 w9 z9 S) | ((with_reducible refine gate_load rfl ?_); first | refine aLd S ?_ | refine aPt S ?_ | refine aL1 S ?_))
      go_ret
      exact ⟨by rw [M.out, Ha1.out, Ha2.out]; first | rfl | simp, S.frame⟩
    | true =>
      have i2 : ((liveN s : Int) == 0) = true := a2
      cases a3 : (o.vsn == s.want) with
      | false =>
        cases a4 : (o.way == 4) with
        | false =>
          have Ha1 := Lib.hid a1
          have Ha2 := Lib.hid a2
          have Ha3 := Lib.hid a3
          have Ha4 := Lib.hid a4
          have nq : (s.way != 4) = _ := NE.out _ a1
          simp only [Bool.not_true, Bool.not_false] at nq
          clear i2
          go_enter Try.func77, Try.ntmps77
          go_wp2_with (first
      | ((with_reducible refine gate_dst (N := 2) rfl ?_); refine aBx S ?_; clear S; intro gS w9 z9 S)
      | ((with_reducible refine gate_dst (N := 3) rfl ?_); refine aBx S ?_; clear S; intro gO w9 z9 S)
      | (go_at_call 84; (with_reducible refine (wayIdle_c _ s _ (FIN.out _ S.frame) HS8.out).mono ?_); rintro e w9 ⟨rfl, f9⟩; rw [Ha2.out]; replace S := S.fr f9; clear f9)
      | ((with_reducible refine gate_box rfl ?_); refine aBx S ?_; clear S; intro g9 w9 z9 S) | ((with_reducible refine gate_load rfl ?_); first | refine aLd S ?_ | refine aPt S ?_ | refine aL1 S ?_))
          go_ret
          exact ⟨by rw [M.out, Ha1.out, Ha2.out, Ha3.out, Ha4.out]; first | rfl | simp, S.frame⟩
        | true =>
          cases a5 : (o.want == s.want) with
          | false =>
            have Ha1 := Lib.hid a1
            have Ha2 := Lib.hid a2
            have Ha3 := Lib.hid a3
            have Ha4 := Lib.hid a4
            have Ha5 := Lib.hid a5
            have nq : (s.way != 4) = _ := NE.out _ a1
            simp only [Bool.not_true, Bool.not_false] at nq
            clear i2
            go_enter Try.func77, Try.ntmps77
            go_wp2_with (first
      | ((with_reducible refine gate_dst (N := 2) rfl ?_); refine aBx S ?_; clear S; intro gS w9 z9 S)
      | ((with_reducible refine gate_dst (N := 3) rfl ?_); refine aBx S ?_; clear S; intro gO w9 z9 S)
      | (go_at_call 84; (with_reducible refine (wayIdle_c _ s _ (FIN.out _ S.frame) HS8.out).mono ?_); rintro e w9 ⟨rfl, f9⟩; rw [Ha2.out]; replace S := S.fr f9; clear f9)
      | ((with_reducible refine gate_box rfl ?_); refine aBx S ?_; clear S; intro g9 w9 z9 S) | ((with_reducible refine gate_load rfl ?_); first | refine aLd S ?_ | refine aPt S ?_ | refine aL1 S ?_))
            go_ret
            exact ⟨by rw [M.out, Ha1.out, Ha2.out, Ha3.out, Ha4.out, Ha5.out]; first | rfl | simp, S.frame⟩
          | true =>
            cases a6 : idleV o with
            | false =>
              have i6 : ((liveN o : Int) == 0) = false := a6
              have Ha1 := Lib.hid a1
              have Ha2 := Lib.hid a2
              have Ha3 := Lib.hid a3
              have Ha4 := Lib.hid a4
              have Ha5 := Lib.hid a5
              have Ha6 := Lib.hid a6
              have nq : (s.way != 4) = _ := NE.out _ a1
              simp only [Bool.not_true, Bool.not_false] at nq
              clear i2 i6
              go_enter Try.func77, Try.ntmps77
              go_wp2_with (first
      | ((with_reducible refine gate_dst (N := 2) rfl ?_); refine aBx S ?_; clear S; intro gS w9 z9 S)
      | ((with_reducible refine gate_dst (N := 3) rfl ?_); refine aBx S ?_; clear S; intro gO w9 z9 S)
      | (go_at_call 84; (with_reducible refine (wayIdle_c _ s _ (FIN.out _ S.frame) HS8.out).mono ?_); rintro e w9 ⟨rfl, f9⟩; rw [Ha2.out]; replace S := S.fr f9; clear f9)
      | (go_at_call 84; (with_reducible refine (wayIdle_c _ o _ (FIO.out _ S.frame) HO8.out).mono ?_); rintro e w9 ⟨rfl, f9⟩; rw [Ha6.out]; replace S := S.fr f9; clear f9)
      | ((with_reducible refine gate_box rfl ?_); refine aBx S ?_; clear S; intro g9 w9 z9 S) | ((with_reducible refine gate_load rfl ?_); first | refine aLd S ?_ | refine aPt S ?_ | refine aL1 S ?_))
              go_ret
              exact ⟨by rw [M.out, Ha1.out, Ha2.out, Ha3.out, Ha4.out, Ha5.out, Ha6.out]; first | rfl | simp, S.frame⟩
            | true =>
              have i6 : ((liveN o : Int) == 0) = true := a6
              have Ha1 := Lib.hid a1
              have Ha2 := Lib.hid a2
              have Ha3 := Lib.hid a3
              have Ha4 := Lib.hid a4
              have Ha5 := Lib.hid a5
              have Ha6 := Lib.hid a6
              have nq : (s.way != 4) = _ := NE.out _ a1
              simp only [Bool.not_true, Bool.not_false] at nq
              clear i2 i6
              go_enter Try.func77, Try.ntmps77
              go_wp2_with (first
      | ((with_reducible refine gate_dst (N := 2) rfl ?_); refine aBx S ?_; clear S; intro gS w9 z9 S)
      | ((with_reducible refine gate_dst (N := 3) rfl ?_); refine aBx S ?_; clear S; intro gO w9 z9 S)
      | (go_at_call 84; (with_reducible refine (wayIdle_c _ s _ (FIN.out _ S.frame) HS8.out).mono ?_); rintro e w9 ⟨rfl, f9⟩; rw [Ha2.out]; replace S := S.fr f9; clear f9)
      | (go_at_call 84; (with_reducible refine (wayIdle_c _ o _ (FIO.out _ S.frame) HO8.out).mono ?_); rintro e w9 ⟨rfl, f9⟩; rw [Ha6.out]; replace S := S.fr f9; clear f9)
      | ((with_reducible refine gate_box rfl ?_); refine aBx S ?_; clear S; intro g9 w9 z9 S) | ((with_reducible refine gate_load rfl ?_); first | refine aLd S ?_ | refine aPt S ?_ | refine aL1 S ?_))
              go_ret
              exact ⟨by rw [M.out, Ha1.out, Ha2.out, Ha3.out, Ha4.out, Ha5.out, Ha6.out]; first | rfl | simp, S.frame⟩
      | true =>
        have Ha1 := Lib.hid a1
        have Ha2 := Lib.hid a2
        have Ha3 := Lib.hid a3
        have nq : (s.way != 4) = _ := NE.out _ a1
        simp only [Bool.not_true, Bool.not_false] at nq
        clear i2
        go_enter Try.func77, Try.ntmps77
        go_wp2_with (first
      | ((with_reducible refine gate_dst (N := 2) rfl ?_); refine aBx S ?_; clear S; intro gS w9 z9 S)
      | ((with_reducible refine gate_dst (N := 3) rfl ?_); refine aBx S ?_; clear S; intro gO w9 z9 S)
      | (go_at_call 84; (with_reducible refine (wayIdle_c _ s _ (FIN.out _ S.frame) HS8.out).mono ?_); rintro e w9 ⟨rfl, f9⟩; rw [Ha2.out]; replace S := S.fr f9; clear f9)
      | ((with_reducible refine gate_box rfl ?_); refine aBx S ?_; clear S; intro g9 w9 z9 S) | ((with_reducible refine gate_load rfl ?_); first | refine aLd S ?_ | refine aPt S ?_ | refine aL1 S ?_))
        go_ret
        exact ⟨by rw [M.out, Ha1.out, Ha2.out, Ha3.out]; first | rfl | simp, S.frame⟩
end Go.Proofs.Ythnjambkgldjdaa
