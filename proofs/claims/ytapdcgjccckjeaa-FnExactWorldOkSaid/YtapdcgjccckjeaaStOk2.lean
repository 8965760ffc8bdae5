/- The reference's StateOk. -/
import Derived.Test.YtapdcgjccckjeaaFate
import Derived.Test.YtapdcgjccckjeaaUsers
namespace Go.Proofs.Ytapdcgjccckjeaa
set_option maxRecDepth 100000
set_option linter.unusedVariables false
set_option linter.unusedSimpArgs false
open Go.RowKit
theorem l6In_e (w : World) (n lo hi : Int) {r : Bool} (h : decide (lo ≤ n ∧ n ≤ hi) = r) : Calls Try.prog 61 #[.int .i64 n, .int .i64 lo, .int .i64 hi] w fun e w' => e = .returned (.bool r) ∧ w = w' := h ▸ l6In_c w n lo hi
set_option maxRecDepth 100000 in
set_option maxHeartbeats 6400000 in
theorem sStateOk_c (w : World) (s : St) (c0 : List Value) (h1 : tSt.rd w s c0) : Calls Try.prog 88 #[.agg c0.toArray] w (Ret (.bool (okSt s)) w) := by
  obtain ⟨v1, v2, v3, v4, rfl, h11, h12, h13, h14, h15⟩ := h1
  obtain ⟨A1, c1, rfl⟩ := h11.val
  obtain ⟨A2, c2, rfl⟩ := h12.val
  obtain ⟨A3, c3, rfl⟩ := h13.val
  obtain ⟨A4, c4, rfl⟩ := h14.val
  have m1 := h11.le
  have m2 := h12.le
  have m3 := h13.le
  have m4 := h14.le
  have S := Sep.start w
  clear h15
  cases a1 : decide (0 ≤ s.way ∧ s.way ≤ 4) with
  | false =>
    have r := Lib.hid (show okSt s = false by simp only [okSt, a1, Bool.false_and])
    have W1 := Lib.hid a1
    clear a1
    go_enter Try.func88, Try.ntmps88
    go_wp2_with (first
      | (go_at_call 61; (with_reducible refine (l6In_e _ s.way 0 4 W1.out).mono ?_); rintro e w9 ⟨rfl, rfl⟩)
      | ((with_reducible refine gate_box rfl ?_); refine aBx S ?_; clear S; intro g9 w9 z9 S) | ((with_reducible refine gate_load rfl ?_); first | refine aLd S ?_ | refine aPt S ?_ | refine aL1 S ?_))
    go_ret
    exact ⟨by rw [r.out]; rfl, S.frame⟩
  | true =>
  cases a2 : decide (1 ≤ s.vsn ∧ s.vsn ≤ 9) with
  | false =>
    have r := Lib.hid (show okSt s = false by simp only [okSt, a2, Bool.false_and, Bool.and_false])
    have W1 := Lib.hid a1
    have W2 := Lib.hid a2
    clear a1 a2
    go_enter Try.func88, Try.ntmps88
    go_wp2_with (first
      | (go_at_call 61; (with_reducible refine (l6In_e _ s.way 0 4 W1.out).mono ?_); rintro e w9 ⟨rfl, rfl⟩)
      | (go_at_call 61; (with_reducible refine (l6In_e _ s.vsn 1 9 W2.out).mono ?_); rintro e w9 ⟨rfl, rfl⟩)
      | ((with_reducible refine gate_box rfl ?_); refine aBx S ?_; clear S; intro g9 w9 z9 S) | ((with_reducible refine gate_load rfl ?_); first | refine aLd S ?_ | refine aPt S ?_ | refine aL1 S ?_))
    go_ret
    exact ⟨by rw [r.out]; rfl, S.frame⟩
  | true =>
  have R0 := Lib.hid (show okSt s = (wantOk s && sentOk s && gotOk s.got) by simp only [okSt, a1, a2, Bool.true_and])
  have W1 := Lib.hid a1
  have W2 := Lib.hid a2
  clear a1 a2
  by_cases e1 : s.sent.length ≤ 8
  case neg =>
    have r := Lib.hid (show okSt s = false by rw [R0.out]; simp [sentOk, e1])
    have t1 : decide ((8 : Int) < (s.sent.length : Int)) = true := decide_eq_true (by omega)
    clear e1
    go_enter Try.func88, Try.ntmps88
    go_wp2_with (first
      | (go_at_call 61; (with_reducible refine (l6In_e _ s.way 0 4 W1.out).mono ?_); rintro e w9 ⟨rfl, rfl⟩)
      | (go_at_call 61; (with_reducible refine (l6In_e _ s.vsn 1 9 W2.out).mono ?_); rintro e w9 ⟨rfl, rfl⟩)
      | ((with_reducible refine gate_box rfl ?_); refine aBx S ?_; clear S; intro g9 w9 z9 S) | ((with_reducible refine gate_load rfl ?_); first | refine aLd S ?_ | refine aPt S ?_ | refine aL1 S ?_))
    go_ret
    exact ⟨by rw [r.out]; rfl, S.frame⟩
  have t1 : decide ((8 : Int) < (s.sent.length : Int)) = false := decide_eq_false (by omega)
  by_cases e2 : s.live.length = s.sent.length
  case neg =>
    have r := Lib.hid (show okSt s = false by rw [R0.out]; simp [sentOk, e2])
    have t2 : ((s.live.length : Int) != (s.sent.length : Int)) = true := by simp; omega
    clear e2
    go_enter Try.func88, Try.ntmps88
    go_wp2_with (first
      | (go_at_call 61; (with_reducible refine (l6In_e _ s.way 0 4 W1.out).mono ?_); rintro e w9 ⟨rfl, rfl⟩)
      | (go_at_call 61; (with_reducible refine (l6In_e _ s.vsn 1 9 W2.out).mono ?_); rintro e w9 ⟨rfl, rfl⟩)
      | ((with_reducible refine gate_box rfl ?_); refine aBx S ?_; clear S; intro g9 w9 z9 S) | ((with_reducible refine gate_load rfl ?_); first | refine aLd S ?_ | refine aPt S ?_ | refine aL1 S ?_))
    go_ret
    exact ⟨by rw [r.out]; rfl, S.frame⟩
  by_cases e3 : s.back.length = s.sent.length
  case neg =>
    have r := Lib.hid (show okSt s = false by rw [R0.out]; simp [sentOk, e3])
    have t3 : ((s.back.length : Int) != (s.sent.length : Int)) = true := by simp; omega
    rw [e2]
    have E2 := Lib.hid e2
    clear e2
    clear e3
    go_enter Try.func88, Try.ntmps88
    go_wp2_with (first
      | (go_at_call 61; (with_reducible refine (l6In_e _ s.way 0 4 W1.out).mono ?_); rintro e w9 ⟨rfl, rfl⟩)
      | (go_at_call 61; (with_reducible refine (l6In_e _ s.vsn 1 9 W2.out).mono ?_); rintro e w9 ⟨rfl, rfl⟩)
      | ((with_reducible refine gate_box rfl ?_); refine aBx S ?_; clear S; intro g9 w9 z9 S) | ((with_reducible refine gate_load rfl ?_); first | refine aLd S ?_ | refine aPt S ?_ | refine aL1 S ?_))
    go_ret
    exact ⟨by rw [r.out]; rfl, S.frame⟩
  by_cases e4 : s.got.length = 8
  case neg =>
    have r := Lib.hid (show okSt s = false by rw [R0.out]; simp [gotOk, e4])
    have t4 : ((s.got.length : Int) != 8) = true := by simp; omega
    rw [e2, e3]
    have E2 := Lib.hid e2
    have E3 := Lib.hid e3
    clear e2 e3
    clear e4
    go_enter Try.func88, Try.ntmps88
    go_wp2_with (first
      | (go_at_call 61; (with_reducible refine (l6In_e _ s.way 0 4 W1.out).mono ?_); rintro e w9 ⟨rfl, rfl⟩)
      | (go_at_call 61; (with_reducible refine (l6In_e _ s.vsn 1 9 W2.out).mono ?_); rintro e w9 ⟨rfl, rfl⟩)
      | ((with_reducible refine gate_box rfl ?_); refine aBx S ?_; clear S; intro g9 w9 z9 S) | ((with_reducible refine gate_load rfl ?_); first | refine aLd S ?_ | refine aPt S ?_ | refine aL1 S ?_))
    go_ret
    exact ⟨by rw [r.out]; rfl, S.frame⟩
  obtain ⟨n, hn⟩ : ∃ n, s.sent.length = n := ⟨_, rfl⟩
  rw [hn] at e1 e2 e3 t1 m1 ⊢
  rw [e2, e3, e4]
  have E1 := Lib.hid hn
  have E2 := Lib.hid e2
  have E3 := Lib.hid e3
  have E4 := Lib.hid e4
  have SO := Lib.hid (show sentOk s = (List.range n).all (pksOk s) by rw [← hn]; simp only [sentOk, hn, e2, e3, decide_eq_true e1, beq_self_eq_true, Bool.true_and])
  have GO := Lib.hid (show gotOk s.got = s.got.all rng2 by simp only [gotOk, e4, beq_self_eq_true, Bool.true_and])
  clear hn e2 e3 e4 m1 m2 m3 m4
  go_enter Try.func88, Try.ntmps88
  go_wp2_with (first
      | ((with_reducible refine gate_dst (N := 1) rfl ?_); refine aBx S ?_; clear S; intro gS w9 z9 S)
      | (go_at_call 61; (with_reducible refine (l6In_e _ s.way 0 4 W1.out).mono ?_); rintro e w9 ⟨rfl, rfl⟩)
      | (go_at_call 61; (with_reducible refine (l6In_e _ s.vsn 1 9 W2.out).mono ?_); rintro e w9 ⟨rfl, rfl⟩)
      | ((with_reducible refine gate_box rfl ?_); refine aBx S ?_; clear S; intro g9 w9 z9 S) | ((with_reducible refine gate_load rfl ?_); first | refine aLd S ?_ | refine aPt S ?_ | refine aL1 S ?_))
  go_loopw [4] (fun i wr => ∃ k : Nat, k ≤ n ∧ i = .int .i64 k ∧ (List.range k).all (pksOk s) = true ∧ Sep [] w [aBox gS 30 7 [.int .i64 s.way, .int .i64 s.vsn, .int .i64 s.want, .slice A1 n c1, .slice A2 n c2, .slice A3 n c3, .slice A4 8 c4]] wr) (fun i _ => n - (intOf i).toNat)
  case atStart => exact ⟨0, Nat.zero_le _, rfl, rfl, S⟩
  case round =>
    clear S
    obtain ⟨k, hk, rfl, hall, S⟩ := hrel
    have HA := Lib.hid hall
    clear hall
    by_cases hlt : k < n
    · obtain ⟨ad1, rfl, g1⟩ := pkAt_of_row h11 k (by rw [E1.out]; exact hlt)
      obtain ⟨ad2, rfl, g2⟩ := row_bool_at h12 k (by rw [E2.out]; exact hlt)
      obtain ⟨ad3, rfl, g3⟩ := row_bool_at h13 k (by rw [E3.out]; exact hlt)
      have hat := pksOk_at (s := s) (k := k) (by rw [E1.out]; exact hlt) (by rw [E2.out]; exact hlt) (by rw [E3.out]; exact hlt)
      have hin : k < s.sent.length := by rw [E1.out]; exact hlt
      generalize s.sent[k]'(by rw [E1.out]; exact hlt) = x at *
      generalize s.live[k]'(by rw [E2.out]; exact hlt) = l at *
      generalize s.back[k]'(by rw [E3.out]; exact hlt) = b at *
      have HAT := Lib.hid hat
      have HIN := Lib.hid hin
      have G1 := Lib.hid g1
      have G2 := Lib.hid g2
      have G3 := Lib.hid g3
      have p1 : (k : Int) < (n : Int) := by omega
      have pw : IntKind.i64.wrap ((k : Int) + 1) = (k : Int) + 1 := IntWalk.i64_in _ (by omega)
      have H2 := Lib.hid (show w.cell? (ad2.add (k * 1)) = some (.bool l) by rw [Nat.mul_one]; exact g2)
      have H3 := Lib.hid (show w.cell? (ad3.add (k * 1)) = some (.bool b) by rw [Nat.mul_one]; exact g3)
      clear hat hin g1 g2 g3
      cases o1 : okPk x with
      | false =>
        have O1 := Lib.hid o1
        have R := Lib.hid (show okSt s = false by rw [R0.out, sentOk_bad (s := s) (k := k) HIN.out (by rw [HAT.out]; simp [pkAtOk, o1])]; simp)
        clear o1
        go_wp2
        have S0 := (Sep.only1 (a1 := aBox gS _ _ _) S delA)
        refine wp_region_noPanic ?_
        refine wp_region_held_drew (S := Sep _ _ _) (by kernel_rfl) S0.drew (fun _ => ?_)
        replace S := S.drew
        clear S0
        refine tk 0 ?_
        (try simp only [Act.put, List.setIfInBounds_toArray, List.set_cons_zero, List.set_cons_succ])
        refine tk 1 ?_
        (try simp only [Act.put, List.setIfInBounds_toArray, List.set_cons_zero, List.set_cons_succ])
        refine tk 2 ?_
        (try simp only [Act.put, List.setIfInBounds_toArray, List.set_cons_zero, List.set_cons_succ])
        refine tk 3 ?_
        (try simp only [Act.put, List.setIfInBounds_toArray, List.set_cons_zero, List.set_cons_succ])
        refine tk 4 ?_ (hy := by first | (refine' yields_pkld (p := x) ?ta 88 _ ?tb ?tc ?td _ ?te ?tf ?tg; (case ta => rfl); (case tb => rfl); (case tc => rfl); (case td => exact fun W hW => G1.out.fr hW.frame); (case te => exact Try.underlying88); (case tf => rfl); (case tg => exact ts88)))
        (try simp only [Act.put, List.setIfInBounds_toArray, List.set_cons_zero, List.set_cons_succ])
        refine rdy1 5 (fun K hK => ?_)
        go_simp; (skip; go_at_call 116; (with_reducible refine (sPacketOk_l _ x).mono ?_); rintro e w9 ⟨rfl, f9⟩; rw [O1.out]; replace S := S.fr f9; clear f9)
        (first | refine hK.out _ _ (S.sub subA) (fun _ => ?_) | (go_wp2_with fail; refine hK.out _ _ (S.sub subA) (fun _ => ?_)))
        clear hK K
        (try simp only [Act.put, List.setIfInBounds_toArray, List.set_cons_zero, List.set_cons_succ])
        refine tk 6 ?_
        (try simp only [Act.put, List.setIfInBounds_toArray, List.set_cons_zero, List.set_cons_succ])
        refine tk 7 ?_
        (try simp only [Act.put, List.setIfInBounds_toArray, List.set_cons_zero, List.set_cons_succ])
        refine tk 8 ?_
        (try simp only [Act.put, List.setIfInBounds_toArray, List.set_cons_zero, List.set_cons_succ])
        refine tk 9 ?_
        (try simp only [Act.put, List.setIfInBounds_toArray, List.set_cons_zero, List.set_cons_succ])
        refine tk 10 ?_
        (try simp only [Act.put, List.setIfInBounds_toArray, List.set_cons_zero, List.set_cons_succ])
        refine tk 11 ?_
        (try simp only [Act.put, List.setIfInBounds_toArray, List.set_cons_zero, List.set_cons_succ])
        refine tk 12 ?_
        (try simp only [Act.put, List.setIfInBounds_toArray, List.set_cons_zero, List.set_cons_succ])
        refine tk 13 ?_ (hy := by first | (refine' yields_cell (v := .int .i64 x.seq) ?ta 3 _ ?tb ?tc ?td _ ?te ?tf; (case ta => rfl); (case tb => rfl); (case tc => rfl); (case td => exact fun W hW => (G1.out.fr hW.frame).at_ 0 _ rfl); (case te => exact Try.underlying3); (case tf => rfl)) | (refine Or.inr ⟨by rfl, ?_⟩; rfl))
        (try simp only [Act.put, List.setIfInBounds_toArray, List.set_cons_zero, List.set_cons_succ])
        refine tk 14 ?_
        (try simp only [Act.put, List.setIfInBounds_toArray, List.set_cons_zero, List.set_cons_succ])
        refine tk 15 ?_
        (try simp only [Act.put, List.setIfInBounds_toArray, List.set_cons_zero, List.set_cons_succ])
        refine tk 16 ?_
        (try simp only [Act.put, List.setIfInBounds_toArray, List.set_cons_zero, List.set_cons_succ])
        refine tk 17 ?_
        (try simp only [Act.put, List.setIfInBounds_toArray, List.set_cons_zero, List.set_cons_succ])
        refine tk 18 ?_
        (try simp only [Act.put, List.setIfInBounds_toArray, List.set_cons_zero, List.set_cons_succ])
        refine tk 19 ?_
        (try simp only [Act.put, List.setIfInBounds_toArray, List.set_cons_zero, List.set_cons_succ])
        refine tk 20 ?_
        (try simp only [Act.put, List.setIfInBounds_toArray, List.set_cons_zero, List.set_cons_succ])
        refine tk 21 ?_
        (try simp only [Act.put, List.setIfInBounds_toArray, List.set_cons_zero, List.set_cons_succ])
        refine tk 22 ?_
        (try simp only [Act.put, List.setIfInBounds_toArray, List.set_cons_zero, List.set_cons_succ])
        refine tk 23 ?_ (hy := by first | (refine' yields_cell (v := .bool true) ?ta 4 _ ?tb ?tc ?td _ ?te ?tf; (case ta => rfl); (case tb => rfl); (case tc => rfl); (case td => exact fun W hW => hW.frame.cell G2.out); (case te => exact Try.underlying4); (case tf => rfl)) | (refine' yields_cell (v := .bool false) ?ta 4 _ ?tb ?tc ?td _ ?te ?tf; (case ta => rfl); (case tb => rfl); (case tc => rfl); (case td => exact fun W hW => hW.frame.cell G2.out); (case te => exact Try.underlying4); (case tf => rfl)) | (refine' yields_cell (v := .bool l) ?ta 4 _ ?tb ?tc ?td _ ?te ?tf; (case ta => rfl); (case tb => rfl); (case tc => rfl); (case td => exact fun W hW => hW.frame.cell G2.out); (case te => exact Try.underlying4); (case tf => rfl)) | (refine Or.inr ⟨by rfl, ?_⟩; rfl))
        (try simp only [Act.put, List.setIfInBounds_toArray, List.set_cons_zero, List.set_cons_succ])
        refine tk 24 ?_
        (try simp only [Act.put, List.setIfInBounds_toArray, List.set_cons_zero, List.set_cons_succ])
        refine tk 25 ?_
        (try simp only [Act.put, List.setIfInBounds_toArray, List.set_cons_zero, List.set_cons_succ])
        refine tk 26 ?_
        (try simp only [Act.put, List.setIfInBounds_toArray, List.set_cons_zero, List.set_cons_succ])
        refine tk 27 ?_
        (try simp only [Act.put, List.setIfInBounds_toArray, List.set_cons_zero, List.set_cons_succ])
        refine tk 28 ?_
        (try simp only [Act.put, List.setIfInBounds_toArray, List.set_cons_zero, List.set_cons_succ])
        refine tk 29 ?_ (hy := by first | (refine' yields_cell (v := .bool true) ?ta 4 _ ?tb ?tc ?td _ ?te ?tf; (case ta => rfl); (case tb => rfl); (case tc => rfl); (case td => exact fun W hW => hW.frame.cell G3.out); (case te => exact Try.underlying4); (case tf => rfl)) | (refine' yields_cell (v := .bool false) ?ta 4 _ ?tb ?tc ?td _ ?te ?tf; (case ta => rfl); (case tb => rfl); (case tc => rfl); (case td => exact fun W hW => hW.frame.cell G3.out); (case te => exact Try.underlying4); (case tf => rfl)) | (refine' yields_cell (v := .bool b) ?ta 4 _ ?tb ?tc ?td _ ?te ?tf; (case ta => rfl); (case tb => rfl); (case tc => rfl); (case td => exact fun W hW => hW.frame.cell G3.out); (case te => exact Try.underlying4); (case tf => rfl)) | (refine Or.inr ⟨by rfl, ?_⟩; rfl))
        (try simp only [Act.put, List.setIfInBounds_toArray, List.set_cons_zero, List.set_cons_succ])
        refine tk 30 ?_
        (try simp only [Act.put, List.setIfInBounds_toArray, List.set_cons_zero, List.set_cons_succ])
        refine tk 31 ?_
        (try simp only [Act.put, List.setIfInBounds_toArray, List.set_cons_zero, List.set_cons_succ])
        refine tk 32 ?_
        (try simp only [Act.put, List.setIfInBounds_toArray, List.set_cons_zero, List.set_cons_succ])
        refine tk 33 ?_
        (try simp only [Act.put, List.setIfInBounds_toArray, List.set_cons_zero, List.set_cons_succ])
        refine tk 34 ?_
        (try simp only [Act.put, List.setIfInBounds_toArray, List.set_cons_zero, List.set_cons_succ])
        refine tk 35 ?_
        (try simp only [Act.put, List.setIfInBounds_toArray, List.set_cons_zero, List.set_cons_succ])
        refine tk 36 ?_
        (try simp only [Act.put, List.setIfInBounds_toArray, List.set_cons_zero, List.set_cons_succ])
        refine tk 37 ?_
        (try simp only [Act.put, List.setIfInBounds_toArray, List.set_cons_zero, List.set_cons_succ])
        refine tk 38 ?_ (hy := by first | (refine' yields_cell (v := .int .i64 x.ver) ?ta 3 _ ?tb ?tc ?td _ ?te ?tf; (case ta => rfl); (case tb => rfl); (case tc => rfl); (case td => exact fun W hW => (G1.out.fr hW.frame).at_ 6 _ rfl); (case te => exact Try.underlying3); (case tf => rfl)) | (refine Or.inr ⟨by rfl, ?_⟩; rfl))
        (try simp only [Act.put, List.setIfInBounds_toArray, List.set_cons_zero, List.set_cons_succ])
        refine tk 39 ?_
        (try simp only [Act.put, List.setIfInBounds_toArray, List.set_cons_zero, List.set_cons_succ])
        refine tk 40 ?_
        (try simp only [Act.put, List.setIfInBounds_toArray, List.set_cons_zero, List.set_cons_succ])
        refine tk 41 ?_
        (try simp only [Act.put, List.setIfInBounds_toArray, List.set_cons_zero, List.set_cons_succ])
        refine tk 42 ?_
        (try simp only [Act.put, List.setIfInBounds_toArray, List.set_cons_zero, List.set_cons_succ])
        refine wpAnyH_done (by kernel_rfl) ?_ _
        refine NoPanic.normal ?_
        go_wp2
        go_ret
        exact ⟨by rw [R.out]; rfl, S.frame⟩
      | true =>
        have O1 := Lib.hid o1
        clear o1
        by_cases hq : x.seq = (k : Int) + 1
        case neg =>
          have tq : (x.seq != (k : Int) + 1) = true := by simpa using hq
          have R := Lib.hid (show okSt s = false by rw [R0.out, sentOk_bad (s := s) (k := k) HIN.out (by rw [HAT.out]; simp [pkAtOk, O1.out, hq])]; simp)
          clear hq
          go_wp2
          have S0 := (Sep.only1 (a1 := aBox gS _ _ _) S delA)
          refine wp_region_noPanic ?_
          refine wp_region_held_drew (S := Sep _ _ _) (by kernel_rfl) S0.drew (fun _ => ?_)
          replace S := S.drew
          clear S0
          refine tk 0 ?_
          (try simp only [Act.put, List.setIfInBounds_toArray, List.set_cons_zero, List.set_cons_succ])
          refine tk 1 ?_
          (try simp only [Act.put, List.setIfInBounds_toArray, List.set_cons_zero, List.set_cons_succ])
          refine tk 2 ?_
          (try simp only [Act.put, List.setIfInBounds_toArray, List.set_cons_zero, List.set_cons_succ])
          refine tk 3 ?_
          (try simp only [Act.put, List.setIfInBounds_toArray, List.set_cons_zero, List.set_cons_succ])
          refine tk 4 ?_ (hy := by first | (refine' yields_pkld (p := x) ?ta 88 _ ?tb ?tc ?td _ ?te ?tf ?tg; (case ta => rfl); (case tb => rfl); (case tc => rfl); (case td => exact fun W hW => G1.out.fr hW.frame); (case te => exact Try.underlying88); (case tf => rfl); (case tg => exact ts88)))
          (try simp only [Act.put, List.setIfInBounds_toArray, List.set_cons_zero, List.set_cons_succ])
          refine rdy1 5 (fun K hK => ?_)
          go_simp; (skip; go_at_call 116; (with_reducible refine (sPacketOk_l _ x).mono ?_); rintro e w9 ⟨rfl, f9⟩; rw [O1.out]; replace S := S.fr f9; clear f9)
          (first | refine hK.out _ _ (S.sub subA) (fun _ => ?_) | (go_wp2_with fail; refine hK.out _ _ (S.sub subA) (fun _ => ?_)))
          clear hK K
          (try simp only [Act.put, List.setIfInBounds_toArray, List.set_cons_zero, List.set_cons_succ])
          refine tk 6 ?_
          (try simp only [Act.put, List.setIfInBounds_toArray, List.set_cons_zero, List.set_cons_succ])
          refine tk 7 ?_
          (try simp only [Act.put, List.setIfInBounds_toArray, List.set_cons_zero, List.set_cons_succ])
          refine tk 8 ?_
          (try simp only [Act.put, List.setIfInBounds_toArray, List.set_cons_zero, List.set_cons_succ])
          refine tk 9 ?_
          (try simp only [Act.put, List.setIfInBounds_toArray, List.set_cons_zero, List.set_cons_succ])
          refine tk 10 ?_
          (try simp only [Act.put, List.setIfInBounds_toArray, List.set_cons_zero, List.set_cons_succ])
          refine tk 11 ?_
          (try simp only [Act.put, List.setIfInBounds_toArray, List.set_cons_zero, List.set_cons_succ])
          refine tk 12 ?_
          (try simp only [Act.put, List.setIfInBounds_toArray, List.set_cons_zero, List.set_cons_succ])
          refine tk 13 ?_ (hy := by first | (refine' yields_cell (v := .int .i64 x.seq) ?ta 3 _ ?tb ?tc ?td _ ?te ?tf; (case ta => rfl); (case tb => rfl); (case tc => rfl); (case td => exact fun W hW => (G1.out.fr hW.frame).at_ 0 _ rfl); (case te => exact Try.underlying3); (case tf => rfl)) | (refine Or.inr ⟨by rfl, ?_⟩; rfl))
          (try simp only [Act.put, List.setIfInBounds_toArray, List.set_cons_zero, List.set_cons_succ])
          refine tk 14 ?_
          (try simp only [Act.put, List.setIfInBounds_toArray, List.set_cons_zero, List.set_cons_succ])
          refine tk 15 ?_
          (try simp only [Act.put, List.setIfInBounds_toArray, List.set_cons_zero, List.set_cons_succ])
          refine tk 16 ?_
          (try simp only [Act.put, List.setIfInBounds_toArray, List.set_cons_zero, List.set_cons_succ])
          refine tk 17 ?_
          (try simp only [Act.put, List.setIfInBounds_toArray, List.set_cons_zero, List.set_cons_succ])
          refine tk 18 ?_
          (try simp only [Act.put, List.setIfInBounds_toArray, List.set_cons_zero, List.set_cons_succ])
          refine tk 19 ?_
          (try simp only [Act.put, List.setIfInBounds_toArray, List.set_cons_zero, List.set_cons_succ])
          refine tk 20 ?_
          (try simp only [Act.put, List.setIfInBounds_toArray, List.set_cons_zero, List.set_cons_succ])
          refine tk 21 ?_
          (try simp only [Act.put, List.setIfInBounds_toArray, List.set_cons_zero, List.set_cons_succ])
          refine tk 22 ?_
          (try simp only [Act.put, List.setIfInBounds_toArray, List.set_cons_zero, List.set_cons_succ])
          refine tk 23 ?_ (hy := by first | (refine' yields_cell (v := .bool true) ?ta 4 _ ?tb ?tc ?td _ ?te ?tf; (case ta => rfl); (case tb => rfl); (case tc => rfl); (case td => exact fun W hW => hW.frame.cell G2.out); (case te => exact Try.underlying4); (case tf => rfl)) | (refine' yields_cell (v := .bool false) ?ta 4 _ ?tb ?tc ?td _ ?te ?tf; (case ta => rfl); (case tb => rfl); (case tc => rfl); (case td => exact fun W hW => hW.frame.cell G2.out); (case te => exact Try.underlying4); (case tf => rfl)) | (refine' yields_cell (v := .bool l) ?ta 4 _ ?tb ?tc ?td _ ?te ?tf; (case ta => rfl); (case tb => rfl); (case tc => rfl); (case td => exact fun W hW => hW.frame.cell G2.out); (case te => exact Try.underlying4); (case tf => rfl)) | (refine Or.inr ⟨by rfl, ?_⟩; rfl))
          (try simp only [Act.put, List.setIfInBounds_toArray, List.set_cons_zero, List.set_cons_succ])
          refine tk 24 ?_
          (try simp only [Act.put, List.setIfInBounds_toArray, List.set_cons_zero, List.set_cons_succ])
          refine tk 25 ?_
          (try simp only [Act.put, List.setIfInBounds_toArray, List.set_cons_zero, List.set_cons_succ])
          refine tk 26 ?_
          (try simp only [Act.put, List.setIfInBounds_toArray, List.set_cons_zero, List.set_cons_succ])
          refine tk 27 ?_
          (try simp only [Act.put, List.setIfInBounds_toArray, List.set_cons_zero, List.set_cons_succ])
          refine tk 28 ?_
          (try simp only [Act.put, List.setIfInBounds_toArray, List.set_cons_zero, List.set_cons_succ])
          refine tk 29 ?_ (hy := by first | (refine' yields_cell (v := .bool true) ?ta 4 _ ?tb ?tc ?td _ ?te ?tf; (case ta => rfl); (case tb => rfl); (case tc => rfl); (case td => exact fun W hW => hW.frame.cell G3.out); (case te => exact Try.underlying4); (case tf => rfl)) | (refine' yields_cell (v := .bool false) ?ta 4 _ ?tb ?tc ?td _ ?te ?tf; (case ta => rfl); (case tb => rfl); (case tc => rfl); (case td => exact fun W hW => hW.frame.cell G3.out); (case te => exact Try.underlying4); (case tf => rfl)) | (refine' yields_cell (v := .bool b) ?ta 4 _ ?tb ?tc ?td _ ?te ?tf; (case ta => rfl); (case tb => rfl); (case tc => rfl); (case td => exact fun W hW => hW.frame.cell G3.out); (case te => exact Try.underlying4); (case tf => rfl)) | (refine Or.inr ⟨by rfl, ?_⟩; rfl))
          (try simp only [Act.put, List.setIfInBounds_toArray, List.set_cons_zero, List.set_cons_succ])
          refine tk 30 ?_
          (try simp only [Act.put, List.setIfInBounds_toArray, List.set_cons_zero, List.set_cons_succ])
          refine tk 31 ?_
          (try simp only [Act.put, List.setIfInBounds_toArray, List.set_cons_zero, List.set_cons_succ])
          refine tk 32 ?_
          (try simp only [Act.put, List.setIfInBounds_toArray, List.set_cons_zero, List.set_cons_succ])
          refine tk 33 ?_
          (try simp only [Act.put, List.setIfInBounds_toArray, List.set_cons_zero, List.set_cons_succ])
          refine tk 34 ?_
          (try simp only [Act.put, List.setIfInBounds_toArray, List.set_cons_zero, List.set_cons_succ])
          refine tk 35 ?_
          (try simp only [Act.put, List.setIfInBounds_toArray, List.set_cons_zero, List.set_cons_succ])
          refine tk 36 ?_
          (try simp only [Act.put, List.setIfInBounds_toArray, List.set_cons_zero, List.set_cons_succ])
          refine tk 37 ?_
          (try simp only [Act.put, List.setIfInBounds_toArray, List.set_cons_zero, List.set_cons_succ])
          refine tk 38 ?_ (hy := by first | (refine' yields_cell (v := .int .i64 x.ver) ?ta 3 _ ?tb ?tc ?td _ ?te ?tf; (case ta => rfl); (case tb => rfl); (case tc => rfl); (case td => exact fun W hW => (G1.out.fr hW.frame).at_ 6 _ rfl); (case te => exact Try.underlying3); (case tf => rfl)) | (refine Or.inr ⟨by rfl, ?_⟩; rfl))
          (try simp only [Act.put, List.setIfInBounds_toArray, List.set_cons_zero, List.set_cons_succ])
          refine tk 39 ?_
          (try simp only [Act.put, List.setIfInBounds_toArray, List.set_cons_zero, List.set_cons_succ])
          refine tk 40 ?_
          (try simp only [Act.put, List.setIfInBounds_toArray, List.set_cons_zero, List.set_cons_succ])
          refine tk 41 ?_
          (try simp only [Act.put, List.setIfInBounds_toArray, List.set_cons_zero, List.set_cons_succ])
          refine tk 42 ?_
          (try simp only [Act.put, List.setIfInBounds_toArray, List.set_cons_zero, List.set_cons_succ])
          refine wpAnyH_done (by kernel_rfl) ?_ _
          refine NoPanic.normal ?_
          go_wp2
          go_ret
          exact ⟨by rw [R.out]; rfl, S.frame⟩
        have tq : (x.seq != (k : Int) + 1) = false := by simpa using hq
        cases hlb : (l && b) with
        | true =>
          simp only [Bool.and_eq_true] at hlb
          obtain ⟨rfl, rfl⟩ := hlb
          have R := Lib.hid (show okSt s = false by rw [R0.out, sentOk_bad (s := s) (k := k) HIN.out (by rw [HAT.out]; simp [pkAtOk, O1.out, hq])]; simp)
          clear hq
          go_wp2
          have S0 := (Sep.only1 (a1 := aBox gS _ _ _) S delA)
          refine wp_region_noPanic ?_
          refine wp_region_held_drew (S := Sep _ _ _) (by kernel_rfl) S0.drew (fun _ => ?_)
          replace S := S.drew
          clear S0
          refine tk 0 ?_
          (try simp only [Act.put, List.setIfInBounds_toArray, List.set_cons_zero, List.set_cons_succ])
          refine tk 1 ?_
          (try simp only [Act.put, List.setIfInBounds_toArray, List.set_cons_zero, List.set_cons_succ])
          refine tk 2 ?_
          (try simp only [Act.put, List.setIfInBounds_toArray, List.set_cons_zero, List.set_cons_succ])
          refine tk 3 ?_
          (try simp only [Act.put, List.setIfInBounds_toArray, List.set_cons_zero, List.set_cons_succ])
          refine tk 4 ?_ (hy := by first | (refine' yields_pkld (p := x) ?ta 88 _ ?tb ?tc ?td _ ?te ?tf ?tg; (case ta => rfl); (case tb => rfl); (case tc => rfl); (case td => exact fun W hW => G1.out.fr hW.frame); (case te => exact Try.underlying88); (case tf => rfl); (case tg => exact ts88)))
          (try simp only [Act.put, List.setIfInBounds_toArray, List.set_cons_zero, List.set_cons_succ])
          refine rdy1 5 (fun K hK => ?_)
          go_simp; (skip; go_at_call 116; (with_reducible refine (sPacketOk_l _ x).mono ?_); rintro e w9 ⟨rfl, f9⟩; rw [O1.out]; replace S := S.fr f9; clear f9)
          (first | refine hK.out _ _ (S.sub subA) (fun _ => ?_) | (go_wp2_with fail; refine hK.out _ _ (S.sub subA) (fun _ => ?_)))
          clear hK K
          (try simp only [Act.put, List.setIfInBounds_toArray, List.set_cons_zero, List.set_cons_succ])
          refine tk 6 ?_
          (try simp only [Act.put, List.setIfInBounds_toArray, List.set_cons_zero, List.set_cons_succ])
          refine tk 7 ?_
          (try simp only [Act.put, List.setIfInBounds_toArray, List.set_cons_zero, List.set_cons_succ])
          refine tk 8 ?_
          (try simp only [Act.put, List.setIfInBounds_toArray, List.set_cons_zero, List.set_cons_succ])
          refine tk 9 ?_
          (try simp only [Act.put, List.setIfInBounds_toArray, List.set_cons_zero, List.set_cons_succ])
          refine tk 10 ?_
          (try simp only [Act.put, List.setIfInBounds_toArray, List.set_cons_zero, List.set_cons_succ])
          refine tk 11 ?_
          (try simp only [Act.put, List.setIfInBounds_toArray, List.set_cons_zero, List.set_cons_succ])
          refine tk 12 ?_
          (try simp only [Act.put, List.setIfInBounds_toArray, List.set_cons_zero, List.set_cons_succ])
          refine tk 13 ?_ (hy := by first | (refine' yields_cell (v := .int .i64 x.seq) ?ta 3 _ ?tb ?tc ?td _ ?te ?tf; (case ta => rfl); (case tb => rfl); (case tc => rfl); (case td => exact fun W hW => (G1.out.fr hW.frame).at_ 0 _ rfl); (case te => exact Try.underlying3); (case tf => rfl)) | (refine Or.inr ⟨by rfl, ?_⟩; rfl))
          (try simp only [Act.put, List.setIfInBounds_toArray, List.set_cons_zero, List.set_cons_succ])
          refine tk 14 ?_
          (try simp only [Act.put, List.setIfInBounds_toArray, List.set_cons_zero, List.set_cons_succ])
          refine tk 15 ?_
          (try simp only [Act.put, List.setIfInBounds_toArray, List.set_cons_zero, List.set_cons_succ])
          refine tk 16 ?_
          (try simp only [Act.put, List.setIfInBounds_toArray, List.set_cons_zero, List.set_cons_succ])
          refine tk 17 ?_
          (try simp only [Act.put, List.setIfInBounds_toArray, List.set_cons_zero, List.set_cons_succ])
          refine tk 18 ?_
          (try simp only [Act.put, List.setIfInBounds_toArray, List.set_cons_zero, List.set_cons_succ])
          refine tk 19 ?_
          (try simp only [Act.put, List.setIfInBounds_toArray, List.set_cons_zero, List.set_cons_succ])
          refine tk 20 ?_
          (try simp only [Act.put, List.setIfInBounds_toArray, List.set_cons_zero, List.set_cons_succ])
          refine tk 21 ?_
          (try simp only [Act.put, List.setIfInBounds_toArray, List.set_cons_zero, List.set_cons_succ])
          refine tk 22 ?_
          (try simp only [Act.put, List.setIfInBounds_toArray, List.set_cons_zero, List.set_cons_succ])
          refine tk 23 ?_ (hy := by first | (refine' yields_cell (v := .bool true) ?ta 4 _ ?tb ?tc ?td _ ?te ?tf; (case ta => rfl); (case tb => rfl); (case tc => rfl); (case td => exact fun W hW => hW.frame.cell G2.out); (case te => exact Try.underlying4); (case tf => rfl)) | (refine' yields_cell (v := .bool false) ?ta 4 _ ?tb ?tc ?td _ ?te ?tf; (case ta => rfl); (case tb => rfl); (case tc => rfl); (case td => exact fun W hW => hW.frame.cell G2.out); (case te => exact Try.underlying4); (case tf => rfl)) | (refine' yields_cell (v := .bool l) ?ta 4 _ ?tb ?tc ?td _ ?te ?tf; (case ta => rfl); (case tb => rfl); (case tc => rfl); (case td => exact fun W hW => hW.frame.cell G2.out); (case te => exact Try.underlying4); (case tf => rfl)) | (refine Or.inr ⟨by rfl, ?_⟩; rfl))
          (try simp only [Act.put, List.setIfInBounds_toArray, List.set_cons_zero, List.set_cons_succ])
          refine tk 24 ?_
          (try simp only [Act.put, List.setIfInBounds_toArray, List.set_cons_zero, List.set_cons_succ])
          refine tk 25 ?_
          (try simp only [Act.put, List.setIfInBounds_toArray, List.set_cons_zero, List.set_cons_succ])
          refine tk 26 ?_
          (try simp only [Act.put, List.setIfInBounds_toArray, List.set_cons_zero, List.set_cons_succ])
          refine tk 27 ?_
          (try simp only [Act.put, List.setIfInBounds_toArray, List.set_cons_zero, List.set_cons_succ])
          refine tk 28 ?_
          (try simp only [Act.put, List.setIfInBounds_toArray, List.set_cons_zero, List.set_cons_succ])
          refine tk 29 ?_ (hy := by first | (refine' yields_cell (v := .bool true) ?ta 4 _ ?tb ?tc ?td _ ?te ?tf; (case ta => rfl); (case tb => rfl); (case tc => rfl); (case td => exact fun W hW => hW.frame.cell G3.out); (case te => exact Try.underlying4); (case tf => rfl)) | (refine' yields_cell (v := .bool false) ?ta 4 _ ?tb ?tc ?td _ ?te ?tf; (case ta => rfl); (case tb => rfl); (case tc => rfl); (case td => exact fun W hW => hW.frame.cell G3.out); (case te => exact Try.underlying4); (case tf => rfl)) | (refine' yields_cell (v := .bool b) ?ta 4 _ ?tb ?tc ?td _ ?te ?tf; (case ta => rfl); (case tb => rfl); (case tc => rfl); (case td => exact fun W hW => hW.frame.cell G3.out); (case te => exact Try.underlying4); (case tf => rfl)) | (refine Or.inr ⟨by rfl, ?_⟩; rfl))
          (try simp only [Act.put, List.setIfInBounds_toArray, List.set_cons_zero, List.set_cons_succ])
          refine tk 30 ?_
          (try simp only [Act.put, List.setIfInBounds_toArray, List.set_cons_zero, List.set_cons_succ])
          refine tk 31 ?_
          (try simp only [Act.put, List.setIfInBounds_toArray, List.set_cons_zero, List.set_cons_succ])
          refine tk 32 ?_
          (try simp only [Act.put, List.setIfInBounds_toArray, List.set_cons_zero, List.set_cons_succ])
          refine tk 33 ?_
          (try simp only [Act.put, List.setIfInBounds_toArray, List.set_cons_zero, List.set_cons_succ])
          refine tk 34 ?_
          (try simp only [Act.put, List.setIfInBounds_toArray, List.set_cons_zero, List.set_cons_succ])
          refine tk 35 ?_
          (try simp only [Act.put, List.setIfInBounds_toArray, List.set_cons_zero, List.set_cons_succ])
          refine tk 36 ?_
          (try simp only [Act.put, List.setIfInBounds_toArray, List.set_cons_zero, List.set_cons_succ])
          refine tk 37 ?_
          (try simp only [Act.put, List.setIfInBounds_toArray, List.set_cons_zero, List.set_cons_succ])
          refine tk 38 ?_ (hy := by first | (refine' yields_cell (v := .int .i64 x.ver) ?ta 3 _ ?tb ?tc ?td _ ?te ?tf; (case ta => rfl); (case tb => rfl); (case tc => rfl); (case td => exact fun W hW => (G1.out.fr hW.frame).at_ 6 _ rfl); (case te => exact Try.underlying3); (case tf => rfl)) | (refine Or.inr ⟨by rfl, ?_⟩; rfl))
          (try simp only [Act.put, List.setIfInBounds_toArray, List.set_cons_zero, List.set_cons_succ])
          refine tk 39 ?_
          (try simp only [Act.put, List.setIfInBounds_toArray, List.set_cons_zero, List.set_cons_succ])
          refine tk 40 ?_
          (try simp only [Act.put, List.setIfInBounds_toArray, List.set_cons_zero, List.set_cons_succ])
          refine tk 41 ?_
          (try simp only [Act.put, List.setIfInBounds_toArray, List.set_cons_zero, List.set_cons_succ])
          refine tk 42 ?_
          (try simp only [Act.put, List.setIfInBounds_toArray, List.set_cons_zero, List.set_cons_succ])
          refine wpAnyH_done (by kernel_rfl) ?_ _
          refine NoPanic.normal ?_
          go_wp2
          go_ret
          exact ⟨by rw [R.out]; rfl, S.frame⟩
        | false =>
        by_cases hv : x.ver ≤ s.vsn
        case neg =>
          have tv : decide (s.vsn < x.ver) = true := decide_eq_true (by omega)
          have R := Lib.hid (show okSt s = false by rw [R0.out, sentOk_bad (s := s) (k := k) HIN.out (by rw [HAT.out]; simp [pkAtOk, O1.out, hv])]; simp)
          clear hq hv
          cases l with
          | false =>
            clear hlb
            go_wp2
            have S0 := (Sep.only1 (a1 := aBox gS _ _ _) S delA)
            refine wp_region_noPanic ?_
            refine wp_region_held_drew (S := Sep _ _ _) (by kernel_rfl) S0.drew (fun _ => ?_)
            replace S := S.drew
            clear S0
            refine tk 0 ?_
            (try simp only [Act.put, List.setIfInBounds_toArray, List.set_cons_zero, List.set_cons_succ])
            refine tk 1 ?_
            (try simp only [Act.put, List.setIfInBounds_toArray, List.set_cons_zero, List.set_cons_succ])
            refine tk 2 ?_
            (try simp only [Act.put, List.setIfInBounds_toArray, List.set_cons_zero, List.set_cons_succ])
            refine tk 3 ?_
            (try simp only [Act.put, List.setIfInBounds_toArray, List.set_cons_zero, List.set_cons_succ])
            refine tk 4 ?_ (hy := by first | (refine' yields_pkld (p := x) ?ta 88 _ ?tb ?tc ?td _ ?te ?tf ?tg; (case ta => rfl); (case tb => rfl); (case tc => rfl); (case td => exact fun W hW => G1.out.fr hW.frame); (case te => exact Try.underlying88); (case tf => rfl); (case tg => exact ts88)))
            (try simp only [Act.put, List.setIfInBounds_toArray, List.set_cons_zero, List.set_cons_succ])
            refine rdy1 5 (fun K hK => ?_)
            go_simp; (skip; go_at_call 116; (with_reducible refine (sPacketOk_l _ x).mono ?_); rintro e w9 ⟨rfl, f9⟩; rw [O1.out]; replace S := S.fr f9; clear f9)
            (first | refine hK.out _ _ (S.sub subA) (fun _ => ?_) | (go_wp2_with fail; refine hK.out _ _ (S.sub subA) (fun _ => ?_)))
            clear hK K
            (try simp only [Act.put, List.setIfInBounds_toArray, List.set_cons_zero, List.set_cons_succ])
            refine tk 6 ?_
            (try simp only [Act.put, List.setIfInBounds_toArray, List.set_cons_zero, List.set_cons_succ])
            refine tk 7 ?_
            (try simp only [Act.put, List.setIfInBounds_toArray, List.set_cons_zero, List.set_cons_succ])
            refine tk 8 ?_
            (try simp only [Act.put, List.setIfInBounds_toArray, List.set_cons_zero, List.set_cons_succ])
            refine tk 9 ?_
            (try simp only [Act.put, List.setIfInBounds_toArray, List.set_cons_zero, List.set_cons_succ])
            refine tk 10 ?_
            (try simp only [Act.put, List.setIfInBounds_toArray, List.set_cons_zero, List.set_cons_succ])
            refine tk 11 ?_
            (try simp only [Act.put, List.setIfInBounds_toArray, List.set_cons_zero, List.set_cons_succ])
            refine tk 12 ?_
            (try simp only [Act.put, List.setIfInBounds_toArray, List.set_cons_zero, List.set_cons_succ])
            refine tk 13 ?_ (hy := by first | (refine' yields_cell (v := .int .i64 x.seq) ?ta 3 _ ?tb ?tc ?td _ ?te ?tf; (case ta => rfl); (case tb => rfl); (case tc => rfl); (case td => exact fun W hW => (G1.out.fr hW.frame).at_ 0 _ rfl); (case te => exact Try.underlying3); (case tf => rfl)) | (refine Or.inr ⟨by rfl, ?_⟩; rfl))
            (try simp only [Act.put, List.setIfInBounds_toArray, List.set_cons_zero, List.set_cons_succ])
            refine tk 14 ?_
            (try simp only [Act.put, List.setIfInBounds_toArray, List.set_cons_zero, List.set_cons_succ])
            refine tk 15 ?_
            (try simp only [Act.put, List.setIfInBounds_toArray, List.set_cons_zero, List.set_cons_succ])
            refine tk 16 ?_
            (try simp only [Act.put, List.setIfInBounds_toArray, List.set_cons_zero, List.set_cons_succ])
            refine tk 17 ?_
            (try simp only [Act.put, List.setIfInBounds_toArray, List.set_cons_zero, List.set_cons_succ])
            refine tk 18 ?_
            (try simp only [Act.put, List.setIfInBounds_toArray, List.set_cons_zero, List.set_cons_succ])
            refine tk 19 ?_
            (try simp only [Act.put, List.setIfInBounds_toArray, List.set_cons_zero, List.set_cons_succ])
            refine tk 20 ?_
            (try simp only [Act.put, List.setIfInBounds_toArray, List.set_cons_zero, List.set_cons_succ])
            refine tk 21 ?_
            (try simp only [Act.put, List.setIfInBounds_toArray, List.set_cons_zero, List.set_cons_succ])
            refine tk 22 ?_
            (try simp only [Act.put, List.setIfInBounds_toArray, List.set_cons_zero, List.set_cons_succ])
            refine tk 23 ?_ (hy := by first | (refine' yields_cell (v := .bool true) ?ta 4 _ ?tb ?tc ?td _ ?te ?tf; (case ta => rfl); (case tb => rfl); (case tc => rfl); (case td => exact fun W hW => hW.frame.cell G2.out); (case te => exact Try.underlying4); (case tf => rfl)) | (refine' yields_cell (v := .bool false) ?ta 4 _ ?tb ?tc ?td _ ?te ?tf; (case ta => rfl); (case tb => rfl); (case tc => rfl); (case td => exact fun W hW => hW.frame.cell G2.out); (case te => exact Try.underlying4); (case tf => rfl)) | (refine' yields_cell (v := .bool l) ?ta 4 _ ?tb ?tc ?td _ ?te ?tf; (case ta => rfl); (case tb => rfl); (case tc => rfl); (case td => exact fun W hW => hW.frame.cell G2.out); (case te => exact Try.underlying4); (case tf => rfl)) | (refine Or.inr ⟨by rfl, ?_⟩; rfl))
            (try simp only [Act.put, List.setIfInBounds_toArray, List.set_cons_zero, List.set_cons_succ])
            refine tk 24 ?_
            (try simp only [Act.put, List.setIfInBounds_toArray, List.set_cons_zero, List.set_cons_succ])
            refine tk 25 ?_
            (try simp only [Act.put, List.setIfInBounds_toArray, List.set_cons_zero, List.set_cons_succ])
            refine tk 26 ?_
            (try simp only [Act.put, List.setIfInBounds_toArray, List.set_cons_zero, List.set_cons_succ])
            refine tk 27 ?_
            (try simp only [Act.put, List.setIfInBounds_toArray, List.set_cons_zero, List.set_cons_succ])
            refine tk 28 ?_
            (try simp only [Act.put, List.setIfInBounds_toArray, List.set_cons_zero, List.set_cons_succ])
            refine tk 29 ?_ (hy := by first | (refine' yields_cell (v := .bool true) ?ta 4 _ ?tb ?tc ?td _ ?te ?tf; (case ta => rfl); (case tb => rfl); (case tc => rfl); (case td => exact fun W hW => hW.frame.cell G3.out); (case te => exact Try.underlying4); (case tf => rfl)) | (refine' yields_cell (v := .bool false) ?ta 4 _ ?tb ?tc ?td _ ?te ?tf; (case ta => rfl); (case tb => rfl); (case tc => rfl); (case td => exact fun W hW => hW.frame.cell G3.out); (case te => exact Try.underlying4); (case tf => rfl)) | (refine' yields_cell (v := .bool b) ?ta 4 _ ?tb ?tc ?td _ ?te ?tf; (case ta => rfl); (case tb => rfl); (case tc => rfl); (case td => exact fun W hW => hW.frame.cell G3.out); (case te => exact Try.underlying4); (case tf => rfl)) | (refine Or.inr ⟨by rfl, ?_⟩; rfl))
            (try simp only [Act.put, List.setIfInBounds_toArray, List.set_cons_zero, List.set_cons_succ])
            refine tk 30 ?_
            (try simp only [Act.put, List.setIfInBounds_toArray, List.set_cons_zero, List.set_cons_succ])
            refine tk 31 ?_
            (try simp only [Act.put, List.setIfInBounds_toArray, List.set_cons_zero, List.set_cons_succ])
            refine tk 32 ?_
            (try simp only [Act.put, List.setIfInBounds_toArray, List.set_cons_zero, List.set_cons_succ])
            refine tk 33 ?_
            (try simp only [Act.put, List.setIfInBounds_toArray, List.set_cons_zero, List.set_cons_succ])
            refine tk 34 ?_
            (try simp only [Act.put, List.setIfInBounds_toArray, List.set_cons_zero, List.set_cons_succ])
            refine tk 35 ?_
            (try simp only [Act.put, List.setIfInBounds_toArray, List.set_cons_zero, List.set_cons_succ])
            refine tk 36 ?_
            (try simp only [Act.put, List.setIfInBounds_toArray, List.set_cons_zero, List.set_cons_succ])
            refine tk 37 ?_
            (try simp only [Act.put, List.setIfInBounds_toArray, List.set_cons_zero, List.set_cons_succ])
            refine tk 38 ?_ (hy := by first | (refine' yields_cell (v := .int .i64 x.ver) ?ta 3 _ ?tb ?tc ?td _ ?te ?tf; (case ta => rfl); (case tb => rfl); (case tc => rfl); (case td => exact fun W hW => (G1.out.fr hW.frame).at_ 6 _ rfl); (case te => exact Try.underlying3); (case tf => rfl)) | (refine Or.inr ⟨by rfl, ?_⟩; rfl))
            (try simp only [Act.put, List.setIfInBounds_toArray, List.set_cons_zero, List.set_cons_succ])
            refine tk 39 ?_
            (try simp only [Act.put, List.setIfInBounds_toArray, List.set_cons_zero, List.set_cons_succ])
            refine tk 40 ?_
            (try simp only [Act.put, List.setIfInBounds_toArray, List.set_cons_zero, List.set_cons_succ])
            refine tk 41 ?_
            (try simp only [Act.put, List.setIfInBounds_toArray, List.set_cons_zero, List.set_cons_succ])
            refine tk 42 ?_
            (try simp only [Act.put, List.setIfInBounds_toArray, List.set_cons_zero, List.set_cons_succ])
            refine wpAnyH_done (by kernel_rfl) ?_ _
            refine NoPanic.normal ?_
            go_wp2
            go_ret
            exact ⟨by rw [R.out]; rfl, S.frame⟩
          | true =>
            simp only [Bool.true_and] at hlb
            subst hlb
            go_wp2
            have S0 := (Sep.only1 (a1 := aBox gS _ _ _) S delA)
            refine wp_region_noPanic ?_
            refine wp_region_held_drew (S := Sep _ _ _) (by kernel_rfl) S0.drew (fun _ => ?_)
            replace S := S.drew
            clear S0
            refine tk 0 ?_
            (try simp only [Act.put, List.setIfInBounds_toArray, List.set_cons_zero, List.set_cons_succ])
            refine tk 1 ?_
            (try simp only [Act.put, List.setIfInBounds_toArray, List.set_cons_zero, List.set_cons_succ])
            refine tk 2 ?_
            (try simp only [Act.put, List.setIfInBounds_toArray, List.set_cons_zero, List.set_cons_succ])
            refine tk 3 ?_
            (try simp only [Act.put, List.setIfInBounds_toArray, List.set_cons_zero, List.set_cons_succ])
            refine tk 4 ?_ (hy := by first | (refine' yields_pkld (p := x) ?ta 88 _ ?tb ?tc ?td _ ?te ?tf ?tg; (case ta => rfl); (case tb => rfl); (case tc => rfl); (case td => exact fun W hW => G1.out.fr hW.frame); (case te => exact Try.underlying88); (case tf => rfl); (case tg => exact ts88)))
            (try simp only [Act.put, List.setIfInBounds_toArray, List.set_cons_zero, List.set_cons_succ])
            refine rdy1 5 (fun K hK => ?_)
            go_simp; (skip; go_at_call 116; (with_reducible refine (sPacketOk_l _ x).mono ?_); rintro e w9 ⟨rfl, f9⟩; rw [O1.out]; replace S := S.fr f9; clear f9)
            (first | refine hK.out _ _ (S.sub subA) (fun _ => ?_) | (go_wp2_with fail; refine hK.out _ _ (S.sub subA) (fun _ => ?_)))
            clear hK K
            (try simp only [Act.put, List.setIfInBounds_toArray, List.set_cons_zero, List.set_cons_succ])
            refine tk 6 ?_
            (try simp only [Act.put, List.setIfInBounds_toArray, List.set_cons_zero, List.set_cons_succ])
            refine tk 7 ?_
            (try simp only [Act.put, List.setIfInBounds_toArray, List.set_cons_zero, List.set_cons_succ])
            refine tk 8 ?_
            (try simp only [Act.put, List.setIfInBounds_toArray, List.set_cons_zero, List.set_cons_succ])
            refine tk 9 ?_
            (try simp only [Act.put, List.setIfInBounds_toArray, List.set_cons_zero, List.set_cons_succ])
            refine tk 10 ?_
            (try simp only [Act.put, List.setIfInBounds_toArray, List.set_cons_zero, List.set_cons_succ])
            refine tk 11 ?_
            (try simp only [Act.put, List.setIfInBounds_toArray, List.set_cons_zero, List.set_cons_succ])
            refine tk 12 ?_
            (try simp only [Act.put, List.setIfInBounds_toArray, List.set_cons_zero, List.set_cons_succ])
            refine tk 13 ?_ (hy := by first | (refine' yields_cell (v := .int .i64 x.seq) ?ta 3 _ ?tb ?tc ?td _ ?te ?tf; (case ta => rfl); (case tb => rfl); (case tc => rfl); (case td => exact fun W hW => (G1.out.fr hW.frame).at_ 0 _ rfl); (case te => exact Try.underlying3); (case tf => rfl)) | (refine Or.inr ⟨by rfl, ?_⟩; rfl))
            (try simp only [Act.put, List.setIfInBounds_toArray, List.set_cons_zero, List.set_cons_succ])
            refine tk 14 ?_
            (try simp only [Act.put, List.setIfInBounds_toArray, List.set_cons_zero, List.set_cons_succ])
            refine tk 15 ?_
            (try simp only [Act.put, List.setIfInBounds_toArray, List.set_cons_zero, List.set_cons_succ])
            refine tk 16 ?_
            (try simp only [Act.put, List.setIfInBounds_toArray, List.set_cons_zero, List.set_cons_succ])
            refine tk 17 ?_
            (try simp only [Act.put, List.setIfInBounds_toArray, List.set_cons_zero, List.set_cons_succ])
            refine tk 18 ?_
            (try simp only [Act.put, List.setIfInBounds_toArray, List.set_cons_zero, List.set_cons_succ])
            refine tk 19 ?_
            (try simp only [Act.put, List.setIfInBounds_toArray, List.set_cons_zero, List.set_cons_succ])
            refine tk 20 ?_
            (try simp only [Act.put, List.setIfInBounds_toArray, List.set_cons_zero, List.set_cons_succ])
            refine tk 21 ?_
            (try simp only [Act.put, List.setIfInBounds_toArray, List.set_cons_zero, List.set_cons_succ])
            refine tk 22 ?_
            (try simp only [Act.put, List.setIfInBounds_toArray, List.set_cons_zero, List.set_cons_succ])
            refine tk 23 ?_ (hy := by first | (refine' yields_cell (v := .bool true) ?ta 4 _ ?tb ?tc ?td _ ?te ?tf; (case ta => rfl); (case tb => rfl); (case tc => rfl); (case td => exact fun W hW => hW.frame.cell G2.out); (case te => exact Try.underlying4); (case tf => rfl)) | (refine' yields_cell (v := .bool false) ?ta 4 _ ?tb ?tc ?td _ ?te ?tf; (case ta => rfl); (case tb => rfl); (case tc => rfl); (case td => exact fun W hW => hW.frame.cell G2.out); (case te => exact Try.underlying4); (case tf => rfl)) | (refine' yields_cell (v := .bool l) ?ta 4 _ ?tb ?tc ?td _ ?te ?tf; (case ta => rfl); (case tb => rfl); (case tc => rfl); (case td => exact fun W hW => hW.frame.cell G2.out); (case te => exact Try.underlying4); (case tf => rfl)) | (refine Or.inr ⟨by rfl, ?_⟩; rfl))
            (try simp only [Act.put, List.setIfInBounds_toArray, List.set_cons_zero, List.set_cons_succ])
            refine tk 24 ?_
            (try simp only [Act.put, List.setIfInBounds_toArray, List.set_cons_zero, List.set_cons_succ])
            refine tk 25 ?_
            (try simp only [Act.put, List.setIfInBounds_toArray, List.set_cons_zero, List.set_cons_succ])
            refine tk 26 ?_
            (try simp only [Act.put, List.setIfInBounds_toArray, List.set_cons_zero, List.set_cons_succ])
            refine tk 27 ?_
            (try simp only [Act.put, List.setIfInBounds_toArray, List.set_cons_zero, List.set_cons_succ])
            refine tk 28 ?_
            (try simp only [Act.put, List.setIfInBounds_toArray, List.set_cons_zero, List.set_cons_succ])
            refine tk 29 ?_ (hy := by first | (refine' yields_cell (v := .bool true) ?ta 4 _ ?tb ?tc ?td _ ?te ?tf; (case ta => rfl); (case tb => rfl); (case tc => rfl); (case td => exact fun W hW => hW.frame.cell G3.out); (case te => exact Try.underlying4); (case tf => rfl)) | (refine' yields_cell (v := .bool false) ?ta 4 _ ?tb ?tc ?td _ ?te ?tf; (case ta => rfl); (case tb => rfl); (case tc => rfl); (case td => exact fun W hW => hW.frame.cell G3.out); (case te => exact Try.underlying4); (case tf => rfl)) | (refine' yields_cell (v := .bool b) ?ta 4 _ ?tb ?tc ?td _ ?te ?tf; (case ta => rfl); (case tb => rfl); (case tc => rfl); (case td => exact fun W hW => hW.frame.cell G3.out); (case te => exact Try.underlying4); (case tf => rfl)) | (refine Or.inr ⟨by rfl, ?_⟩; rfl))
            (try simp only [Act.put, List.setIfInBounds_toArray, List.set_cons_zero, List.set_cons_succ])
            refine tk 30 ?_
            (try simp only [Act.put, List.setIfInBounds_toArray, List.set_cons_zero, List.set_cons_succ])
            refine tk 31 ?_
            (try simp only [Act.put, List.setIfInBounds_toArray, List.set_cons_zero, List.set_cons_succ])
            refine tk 32 ?_
            (try simp only [Act.put, List.setIfInBounds_toArray, List.set_cons_zero, List.set_cons_succ])
            refine tk 33 ?_
            (try simp only [Act.put, List.setIfInBounds_toArray, List.set_cons_zero, List.set_cons_succ])
            refine tk 34 ?_
            (try simp only [Act.put, List.setIfInBounds_toArray, List.set_cons_zero, List.set_cons_succ])
            refine tk 35 ?_
            (try simp only [Act.put, List.setIfInBounds_toArray, List.set_cons_zero, List.set_cons_succ])
            refine tk 36 ?_
            (try simp only [Act.put, List.setIfInBounds_toArray, List.set_cons_zero, List.set_cons_succ])
            refine tk 37 ?_
            (try simp only [Act.put, List.setIfInBounds_toArray, List.set_cons_zero, List.set_cons_succ])
            refine tk 38 ?_ (hy := by first | (refine' yields_cell (v := .int .i64 x.ver) ?ta 3 _ ?tb ?tc ?td _ ?te ?tf; (case ta => rfl); (case tb => rfl); (case tc => rfl); (case td => exact fun W hW => (G1.out.fr hW.frame).at_ 6 _ rfl); (case te => exact Try.underlying3); (case tf => rfl)) | (refine Or.inr ⟨by rfl, ?_⟩; rfl))
            (try simp only [Act.put, List.setIfInBounds_toArray, List.set_cons_zero, List.set_cons_succ])
            refine tk 39 ?_
            (try simp only [Act.put, List.setIfInBounds_toArray, List.set_cons_zero, List.set_cons_succ])
            refine tk 40 ?_
            (try simp only [Act.put, List.setIfInBounds_toArray, List.set_cons_zero, List.set_cons_succ])
            refine tk 41 ?_
            (try simp only [Act.put, List.setIfInBounds_toArray, List.set_cons_zero, List.set_cons_succ])
            refine tk 42 ?_
            (try simp only [Act.put, List.setIfInBounds_toArray, List.set_cons_zero, List.set_cons_succ])
            refine wpAnyH_done (by kernel_rfl) ?_ _
            refine NoPanic.normal ?_
            go_wp2
            go_ret
            exact ⟨by rw [R.out]; rfl, S.frame⟩
        have tv : decide (s.vsn < x.ver) = false := decide_eq_false (by omega)
        have R := Lib.hid (range_all_succ HA.out (by rw [HAT.out]; simp [pkAtOk, O1.out, hq, hv, hlb]))
        clear hq hv
        cases l with
        | false =>
          clear hlb
          go_wp2
          have S0 := (Sep.only1 (a1 := aBox gS _ _ _) S delA)
          refine wp_region_noPanic ?_
          refine wp_region_held_drew (S := Sep _ _ _) (by kernel_rfl) S0.drew (fun _ => ?_)
          replace S := S.drew
          clear S0
          refine tk 0 ?_
          (try simp only [Act.put, List.setIfInBounds_toArray, List.set_cons_zero, List.set_cons_succ])
          refine tk 1 ?_
          (try simp only [Act.put, List.setIfInBounds_toArray, List.set_cons_zero, List.set_cons_succ])
          refine tk 2 ?_
          (try simp only [Act.put, List.setIfInBounds_toArray, List.set_cons_zero, List.set_cons_succ])
          refine tk 3 ?_
          (try simp only [Act.put, List.setIfInBounds_toArray, List.set_cons_zero, List.set_cons_succ])
          refine tk 4 ?_ (hy := by first | (refine' yields_pkld (p := x) ?ta 88 _ ?tb ?tc ?td _ ?te ?tf ?tg; (case ta => rfl); (case tb => rfl); (case tc => rfl); (case td => exact fun W hW => G1.out.fr hW.frame); (case te => exact Try.underlying88); (case tf => rfl); (case tg => exact ts88)))
          (try simp only [Act.put, List.setIfInBounds_toArray, List.set_cons_zero, List.set_cons_succ])
          refine rdy1 5 (fun K hK => ?_)
          go_simp; (skip; go_at_call 116; (with_reducible refine (sPacketOk_l _ x).mono ?_); rintro e w9 ⟨rfl, f9⟩; rw [O1.out]; replace S := S.fr f9; clear f9)
          (first | refine hK.out _ _ (S.sub subA) (fun _ => ?_) | (go_wp2_with fail; refine hK.out _ _ (S.sub subA) (fun _ => ?_)))
          clear hK K
          (try simp only [Act.put, List.setIfInBounds_toArray, List.set_cons_zero, List.set_cons_succ])
          refine tk 6 ?_
          (try simp only [Act.put, List.setIfInBounds_toArray, List.set_cons_zero, List.set_cons_succ])
          refine tk 7 ?_
          (try simp only [Act.put, List.setIfInBounds_toArray, List.set_cons_zero, List.set_cons_succ])
          refine tk 8 ?_
          (try simp only [Act.put, List.setIfInBounds_toArray, List.set_cons_zero, List.set_cons_succ])
          refine tk 9 ?_
          (try simp only [Act.put, List.setIfInBounds_toArray, List.set_cons_zero, List.set_cons_succ])
          refine tk 10 ?_
          (try simp only [Act.put, List.setIfInBounds_toArray, List.set_cons_zero, List.set_cons_succ])
          refine tk 11 ?_
          (try simp only [Act.put, List.setIfInBounds_toArray, List.set_cons_zero, List.set_cons_succ])
          refine tk 12 ?_
          (try simp only [Act.put, List.setIfInBounds_toArray, List.set_cons_zero, List.set_cons_succ])
          refine tk 13 ?_ (hy := by first | (refine' yields_cell (v := .int .i64 x.seq) ?ta 3 _ ?tb ?tc ?td _ ?te ?tf; (case ta => rfl); (case tb => rfl); (case tc => rfl); (case td => exact fun W hW => (G1.out.fr hW.frame).at_ 0 _ rfl); (case te => exact Try.underlying3); (case tf => rfl)) | (refine Or.inr ⟨by rfl, ?_⟩; rfl))
          (try simp only [Act.put, List.setIfInBounds_toArray, List.set_cons_zero, List.set_cons_succ])
          refine tk 14 ?_
          (try simp only [Act.put, List.setIfInBounds_toArray, List.set_cons_zero, List.set_cons_succ])
          refine tk 15 ?_
          (try simp only [Act.put, List.setIfInBounds_toArray, List.set_cons_zero, List.set_cons_succ])
          refine tk 16 ?_
          (try simp only [Act.put, List.setIfInBounds_toArray, List.set_cons_zero, List.set_cons_succ])
          refine tk 17 ?_
          (try simp only [Act.put, List.setIfInBounds_toArray, List.set_cons_zero, List.set_cons_succ])
          refine tk 18 ?_
          (try simp only [Act.put, List.setIfInBounds_toArray, List.set_cons_zero, List.set_cons_succ])
          refine tk 19 ?_
          (try simp only [Act.put, List.setIfInBounds_toArray, List.set_cons_zero, List.set_cons_succ])
          refine tk 20 ?_
          (try simp only [Act.put, List.setIfInBounds_toArray, List.set_cons_zero, List.set_cons_succ])
          refine tk 21 ?_
          (try simp only [Act.put, List.setIfInBounds_toArray, List.set_cons_zero, List.set_cons_succ])
          refine tk 22 ?_
          (try simp only [Act.put, List.setIfInBounds_toArray, List.set_cons_zero, List.set_cons_succ])
          refine tk 23 ?_ (hy := by first | (refine' yields_cell (v := .bool true) ?ta 4 _ ?tb ?tc ?td _ ?te ?tf; (case ta => rfl); (case tb => rfl); (case tc => rfl); (case td => exact fun W hW => hW.frame.cell G2.out); (case te => exact Try.underlying4); (case tf => rfl)) | (refine' yields_cell (v := .bool false) ?ta 4 _ ?tb ?tc ?td _ ?te ?tf; (case ta => rfl); (case tb => rfl); (case tc => rfl); (case td => exact fun W hW => hW.frame.cell G2.out); (case te => exact Try.underlying4); (case tf => rfl)) | (refine' yields_cell (v := .bool l) ?ta 4 _ ?tb ?tc ?td _ ?te ?tf; (case ta => rfl); (case tb => rfl); (case tc => rfl); (case td => exact fun W hW => hW.frame.cell G2.out); (case te => exact Try.underlying4); (case tf => rfl)) | (refine Or.inr ⟨by rfl, ?_⟩; rfl))
          (try simp only [Act.put, List.setIfInBounds_toArray, List.set_cons_zero, List.set_cons_succ])
          refine tk 24 ?_
          (try simp only [Act.put, List.setIfInBounds_toArray, List.set_cons_zero, List.set_cons_succ])
          refine tk 25 ?_
          (try simp only [Act.put, List.setIfInBounds_toArray, List.set_cons_zero, List.set_cons_succ])
          refine tk 26 ?_
          (try simp only [Act.put, List.setIfInBounds_toArray, List.set_cons_zero, List.set_cons_succ])
          refine tk 27 ?_
          (try simp only [Act.put, List.setIfInBounds_toArray, List.set_cons_zero, List.set_cons_succ])
          refine tk 28 ?_
          (try simp only [Act.put, List.setIfInBounds_toArray, List.set_cons_zero, List.set_cons_succ])
          refine tk 29 ?_ (hy := by first | (refine' yields_cell (v := .bool true) ?ta 4 _ ?tb ?tc ?td _ ?te ?tf; (case ta => rfl); (case tb => rfl); (case tc => rfl); (case td => exact fun W hW => hW.frame.cell G3.out); (case te => exact Try.underlying4); (case tf => rfl)) | (refine' yields_cell (v := .bool false) ?ta 4 _ ?tb ?tc ?td _ ?te ?tf; (case ta => rfl); (case tb => rfl); (case tc => rfl); (case td => exact fun W hW => hW.frame.cell G3.out); (case te => exact Try.underlying4); (case tf => rfl)) | (refine' yields_cell (v := .bool b) ?ta 4 _ ?tb ?tc ?td _ ?te ?tf; (case ta => rfl); (case tb => rfl); (case tc => rfl); (case td => exact fun W hW => hW.frame.cell G3.out); (case te => exact Try.underlying4); (case tf => rfl)) | (refine Or.inr ⟨by rfl, ?_⟩; rfl))
          (try simp only [Act.put, List.setIfInBounds_toArray, List.set_cons_zero, List.set_cons_succ])
          refine tk 30 ?_
          (try simp only [Act.put, List.setIfInBounds_toArray, List.set_cons_zero, List.set_cons_succ])
          refine tk 31 ?_
          (try simp only [Act.put, List.setIfInBounds_toArray, List.set_cons_zero, List.set_cons_succ])
          refine tk 32 ?_
          (try simp only [Act.put, List.setIfInBounds_toArray, List.set_cons_zero, List.set_cons_succ])
          refine tk 33 ?_
          (try simp only [Act.put, List.setIfInBounds_toArray, List.set_cons_zero, List.set_cons_succ])
          refine tk 34 ?_
          (try simp only [Act.put, List.setIfInBounds_toArray, List.set_cons_zero, List.set_cons_succ])
          refine tk 35 ?_
          (try simp only [Act.put, List.setIfInBounds_toArray, List.set_cons_zero, List.set_cons_succ])
          refine tk 36 ?_
          (try simp only [Act.put, List.setIfInBounds_toArray, List.set_cons_zero, List.set_cons_succ])
          refine tk 37 ?_
          (try simp only [Act.put, List.setIfInBounds_toArray, List.set_cons_zero, List.set_cons_succ])
          refine tk 38 ?_ (hy := by first | (refine' yields_cell (v := .int .i64 x.ver) ?ta 3 _ ?tb ?tc ?td _ ?te ?tf; (case ta => rfl); (case tb => rfl); (case tc => rfl); (case td => exact fun W hW => (G1.out.fr hW.frame).at_ 6 _ rfl); (case te => exact Try.underlying3); (case tf => rfl)) | (refine Or.inr ⟨by rfl, ?_⟩; rfl))
          (try simp only [Act.put, List.setIfInBounds_toArray, List.set_cons_zero, List.set_cons_succ])
          refine tk 39 ?_
          (try simp only [Act.put, List.setIfInBounds_toArray, List.set_cons_zero, List.set_cons_succ])
          refine tk 40 ?_
          (try simp only [Act.put, List.setIfInBounds_toArray, List.set_cons_zero, List.set_cons_succ])
          refine tk 41 ?_
          (try simp only [Act.put, List.setIfInBounds_toArray, List.set_cons_zero, List.set_cons_succ])
          refine tk 42 ?_
          (try simp only [Act.put, List.setIfInBounds_toArray, List.set_cons_zero, List.set_cons_succ])
          refine wpAnyH_done (by kernel_rfl) ?_ _
          refine NoPanic.normal ?_
          go_wp2
          go_roundw
          case rel => exact ⟨k + 1, by omega, by go_num, R.out, (Sep.only1 (a1 := aBox gS _ _ _) S delA)⟩
          case measure => simp [intOf]; omega
        | true =>
          simp only [Bool.true_and] at hlb
          subst hlb
          go_wp2
          have S0 := (Sep.only1 (a1 := aBox gS _ _ _) S delA)
          refine wp_region_noPanic ?_
          refine wp_region_held_drew (S := Sep _ _ _) (by kernel_rfl) S0.drew (fun _ => ?_)
          replace S := S.drew
          clear S0
          refine tk 0 ?_
          (try simp only [Act.put, List.setIfInBounds_toArray, List.set_cons_zero, List.set_cons_succ])
          refine tk 1 ?_
          (try simp only [Act.put, List.setIfInBounds_toArray, List.set_cons_zero, List.set_cons_succ])
          refine tk 2 ?_
          (try simp only [Act.put, List.setIfInBounds_toArray, List.set_cons_zero, List.set_cons_succ])
          refine tk 3 ?_
          (try simp only [Act.put, List.setIfInBounds_toArray, List.set_cons_zero, List.set_cons_succ])
          refine tk 4 ?_ (hy := by first | (refine' yields_pkld (p := x) ?ta 88 _ ?tb ?tc ?td _ ?te ?tf ?tg; (case ta => rfl); (case tb => rfl); (case tc => rfl); (case td => exact fun W hW => G1.out.fr hW.frame); (case te => exact Try.underlying88); (case tf => rfl); (case tg => exact ts88)))
          (try simp only [Act.put, List.setIfInBounds_toArray, List.set_cons_zero, List.set_cons_succ])
          refine rdy1 5 (fun K hK => ?_)
          go_simp; (skip; go_at_call 116; (with_reducible refine (sPacketOk_l _ x).mono ?_); rintro e w9 ⟨rfl, f9⟩; rw [O1.out]; replace S := S.fr f9; clear f9)
          (first | refine hK.out _ _ (S.sub subA) (fun _ => ?_) | (go_wp2_with fail; refine hK.out _ _ (S.sub subA) (fun _ => ?_)))
          clear hK K
          (try simp only [Act.put, List.setIfInBounds_toArray, List.set_cons_zero, List.set_cons_succ])
          refine tk 6 ?_
          (try simp only [Act.put, List.setIfInBounds_toArray, List.set_cons_zero, List.set_cons_succ])
          refine tk 7 ?_
          (try simp only [Act.put, List.setIfInBounds_toArray, List.set_cons_zero, List.set_cons_succ])
          refine tk 8 ?_
          (try simp only [Act.put, List.setIfInBounds_toArray, List.set_cons_zero, List.set_cons_succ])
          refine tk 9 ?_
          (try simp only [Act.put, List.setIfInBounds_toArray, List.set_cons_zero, List.set_cons_succ])
          refine tk 10 ?_
          (try simp only [Act.put, List.setIfInBounds_toArray, List.set_cons_zero, List.set_cons_succ])
          refine tk 11 ?_
          (try simp only [Act.put, List.setIfInBounds_toArray, List.set_cons_zero, List.set_cons_succ])
          refine tk 12 ?_
          (try simp only [Act.put, List.setIfInBounds_toArray, List.set_cons_zero, List.set_cons_succ])
          refine tk 13 ?_ (hy := by first | (refine' yields_cell (v := .int .i64 x.seq) ?ta 3 _ ?tb ?tc ?td _ ?te ?tf; (case ta => rfl); (case tb => rfl); (case tc => rfl); (case td => exact fun W hW => (G1.out.fr hW.frame).at_ 0 _ rfl); (case te => exact Try.underlying3); (case tf => rfl)) | (refine Or.inr ⟨by rfl, ?_⟩; rfl))
          (try simp only [Act.put, List.setIfInBounds_toArray, List.set_cons_zero, List.set_cons_succ])
          refine tk 14 ?_
          (try simp only [Act.put, List.setIfInBounds_toArray, List.set_cons_zero, List.set_cons_succ])
          refine tk 15 ?_
          (try simp only [Act.put, List.setIfInBounds_toArray, List.set_cons_zero, List.set_cons_succ])
          refine tk 16 ?_
          (try simp only [Act.put, List.setIfInBounds_toArray, List.set_cons_zero, List.set_cons_succ])
          refine tk 17 ?_
          (try simp only [Act.put, List.setIfInBounds_toArray, List.set_cons_zero, List.set_cons_succ])
          refine tk 18 ?_
          (try simp only [Act.put, List.setIfInBounds_toArray, List.set_cons_zero, List.set_cons_succ])
          refine tk 19 ?_
          (try simp only [Act.put, List.setIfInBounds_toArray, List.set_cons_zero, List.set_cons_succ])
          refine tk 20 ?_
          (try simp only [Act.put, List.setIfInBounds_toArray, List.set_cons_zero, List.set_cons_succ])
          refine tk 21 ?_
          (try simp only [Act.put, List.setIfInBounds_toArray, List.set_cons_zero, List.set_cons_succ])
          refine tk 22 ?_
          (try simp only [Act.put, List.setIfInBounds_toArray, List.set_cons_zero, List.set_cons_succ])
          refine tk 23 ?_ (hy := by first | (refine' yields_cell (v := .bool true) ?ta 4 _ ?tb ?tc ?td _ ?te ?tf; (case ta => rfl); (case tb => rfl); (case tc => rfl); (case td => exact fun W hW => hW.frame.cell G2.out); (case te => exact Try.underlying4); (case tf => rfl)) | (refine' yields_cell (v := .bool false) ?ta 4 _ ?tb ?tc ?td _ ?te ?tf; (case ta => rfl); (case tb => rfl); (case tc => rfl); (case td => exact fun W hW => hW.frame.cell G2.out); (case te => exact Try.underlying4); (case tf => rfl)) | (refine' yields_cell (v := .bool l) ?ta 4 _ ?tb ?tc ?td _ ?te ?tf; (case ta => rfl); (case tb => rfl); (case tc => rfl); (case td => exact fun W hW => hW.frame.cell G2.out); (case te => exact Try.underlying4); (case tf => rfl)) | (refine Or.inr ⟨by rfl, ?_⟩; rfl))
          (try simp only [Act.put, List.setIfInBounds_toArray, List.set_cons_zero, List.set_cons_succ])
          refine tk 24 ?_
          (try simp only [Act.put, List.setIfInBounds_toArray, List.set_cons_zero, List.set_cons_succ])
          refine tk 25 ?_
          (try simp only [Act.put, List.setIfInBounds_toArray, List.set_cons_zero, List.set_cons_succ])
          refine tk 26 ?_
          (try simp only [Act.put, List.setIfInBounds_toArray, List.set_cons_zero, List.set_cons_succ])
          refine tk 27 ?_
          (try simp only [Act.put, List.setIfInBounds_toArray, List.set_cons_zero, List.set_cons_succ])
          refine tk 28 ?_
          (try simp only [Act.put, List.setIfInBounds_toArray, List.set_cons_zero, List.set_cons_succ])
          refine tk 29 ?_ (hy := by first | (refine' yields_cell (v := .bool true) ?ta 4 _ ?tb ?tc ?td _ ?te ?tf; (case ta => rfl); (case tb => rfl); (case tc => rfl); (case td => exact fun W hW => hW.frame.cell G3.out); (case te => exact Try.underlying4); (case tf => rfl)) | (refine' yields_cell (v := .bool false) ?ta 4 _ ?tb ?tc ?td _ ?te ?tf; (case ta => rfl); (case tb => rfl); (case tc => rfl); (case td => exact fun W hW => hW.frame.cell G3.out); (case te => exact Try.underlying4); (case tf => rfl)) | (refine' yields_cell (v := .bool b) ?ta 4 _ ?tb ?tc ?td _ ?te ?tf; (case ta => rfl); (case tb => rfl); (case tc => rfl); (case td => exact fun W hW => hW.frame.cell G3.out); (case te => exact Try.underlying4); (case tf => rfl)) | (refine Or.inr ⟨by rfl, ?_⟩; rfl))
          (try simp only [Act.put, List.setIfInBounds_toArray, List.set_cons_zero, List.set_cons_succ])
          refine tk 30 ?_
          (try simp only [Act.put, List.setIfInBounds_toArray, List.set_cons_zero, List.set_cons_succ])
          refine tk 31 ?_
          (try simp only [Act.put, List.setIfInBounds_toArray, List.set_cons_zero, List.set_cons_succ])
          refine tk 32 ?_
          (try simp only [Act.put, List.setIfInBounds_toArray, List.set_cons_zero, List.set_cons_succ])
          refine tk 33 ?_
          (try simp only [Act.put, List.setIfInBounds_toArray, List.set_cons_zero, List.set_cons_succ])
          refine tk 34 ?_
          (try simp only [Act.put, List.setIfInBounds_toArray, List.set_cons_zero, List.set_cons_succ])
          refine tk 35 ?_
          (try simp only [Act.put, List.setIfInBounds_toArray, List.set_cons_zero, List.set_cons_succ])
          refine tk 36 ?_
          (try simp only [Act.put, List.setIfInBounds_toArray, List.set_cons_zero, List.set_cons_succ])
          refine tk 37 ?_
          (try simp only [Act.put, List.setIfInBounds_toArray, List.set_cons_zero, List.set_cons_succ])
          refine tk 38 ?_ (hy := by first | (refine' yields_cell (v := .int .i64 x.ver) ?ta 3 _ ?tb ?tc ?td _ ?te ?tf; (case ta => rfl); (case tb => rfl); (case tc => rfl); (case td => exact fun W hW => (G1.out.fr hW.frame).at_ 6 _ rfl); (case te => exact Try.underlying3); (case tf => rfl)) | (refine Or.inr ⟨by rfl, ?_⟩; rfl))
          (try simp only [Act.put, List.setIfInBounds_toArray, List.set_cons_zero, List.set_cons_succ])
          refine tk 39 ?_
          (try simp only [Act.put, List.setIfInBounds_toArray, List.set_cons_zero, List.set_cons_succ])
          refine tk 40 ?_
          (try simp only [Act.put, List.setIfInBounds_toArray, List.set_cons_zero, List.set_cons_succ])
          refine tk 41 ?_
          (try simp only [Act.put, List.setIfInBounds_toArray, List.set_cons_zero, List.set_cons_succ])
          refine tk 42 ?_
          (try simp only [Act.put, List.setIfInBounds_toArray, List.set_cons_zero, List.set_cons_succ])
          refine wpAnyH_done (by kernel_rfl) ?_ _
          refine NoPanic.normal ?_
          go_wp2
          go_roundw
          case rel => exact ⟨k + 1, by omega, by go_num, R.out, (Sep.only1 (a1 := aBox gS _ _ _) S delA)⟩
          case measure => simp [intOf]; omega
    · obtain rfl : n = k := by omega
      have R := Lib.hid (show okSt s = (wantOk s && gotOk s.got) by rw [R0.out, SO.out, HA.out, Bool.and_true])
      clear HA
      have pv : 1 ≤ s.vsn ∧ s.vsn ≤ 9 := of_decide_eq_true W2.out
      have pw : IntKind.i64.wrap (s.vsn + 1) = s.vsn + 1 := IntWalk.i64_in _ (by omega)
      clear pv
      go_wp2_with (first | ((with_reducible refine gate_box rfl ?_); refine aBx S ?_; clear S; intro g9 w9 z9 S) | ((with_reducible refine gate_load rfl ?_); first | refine aLd S ?_ | refine aPt S ?_ | refine aL1 S ?_))
      go_loopw [5] (fun i wr => ∃ k : Nat, k ≤ 8 ∧ i = .int .i64 k ∧ (s.got.take k).all rng2 = true ∧ Sep [] w [aBox gS 30 7 [.int .i64 s.way, .int .i64 s.vsn, .int .i64 s.want, .slice A1 n c1, .slice A2 n c2, .slice A3 n c3, .slice A4 8 c4]] wr) (fun i _ => 8 - (intOf i).toNat)
      case atStart => exact ⟨0, Nat.zero_le _, rfl, rfl, S⟩
      case round =>
        clear S
        obtain ⟨k, hk8, rfl, hall, S⟩ := hrel
        have HA := Lib.hid hall
        clear hall
        by_cases hlt8 : k < 8
        · have hin : k < s.got.length := by rw [E4.out]; exact hlt8
          obtain ⟨ad4, rfl, g4⟩ := row_int_at h14 k hin
          have HIN := Lib.hid hin
          have G4 := Lib.hid g4
          clear g4
          have p1 : (k : Int) < 8 := by omega
          cases o1 : rng2 (s.got[k]'HIN.out) with
          | false =>
            have R2 := Lib.hid (show okSt s = false by rw [R.out, gotOk_bad HIN.out o1]; simp)
            have O1 := Lib.hid (show decide (0 ≤ s.got[k]'HIN.out ∧ s.got[k]'HIN.out ≤ 2) = false from o1)
            clear o1
            go_wp2_with (first
              | ((with_reducible refine gate_dst (N := 102) rfl ?_); refine wpList_rowint (by rfl) 3 _ rfl rfl (S.frame.cell G4.out) _ Try.underlying3 rfl ?_)
              | (go_at_call 61; (with_reducible refine (l6In_e _ _ 0 2 O1.out).mono ?_); rintro e w9 ⟨rfl, rfl⟩)
              | ((with_reducible refine gate_box rfl ?_); refine aBx S ?_; clear S; intro g9 w9 z9 S) | ((with_reducible refine gate_load rfl ?_); first | refine aLd S ?_ | refine aPt S ?_ | refine aL1 S ?_))
            go_ret
            exact ⟨by rw [R2.out]; rfl, S.frame⟩
          | true =>
            have R2 := Lib.hid (allr_succ HIN.out HA.out o1)
            have O1 := Lib.hid (show decide (0 ≤ s.got[k]'HIN.out ∧ s.got[k]'HIN.out ≤ 2) = true from o1)
            clear o1
            go_wp2_with (first
              | ((with_reducible refine gate_dst (N := 102) rfl ?_); refine wpList_rowint (by rfl) 3 _ rfl rfl (S.frame.cell G4.out) _ Try.underlying3 rfl ?_)
              | (go_at_call 61; (with_reducible refine (l6In_e _ _ 0 2 O1.out).mono ?_); rintro e w9 ⟨rfl, rfl⟩)
              | ((with_reducible refine gate_box rfl ?_); refine aBx S ?_; clear S; intro g9 w9 z9 S) | ((with_reducible refine gate_load rfl ?_); first | refine aLd S ?_ | refine aPt S ?_ | refine aL1 S ?_))
            go_roundw
            case rel => exact ⟨k + 1, by omega, by go_num, R2.out, S⟩
            case measure => simp [intOf]; omega
        · obtain rfl : k = 8 := by omega
          have R2 := Lib.hid (show okSt s = wantOk s by rw [R.out, GO.out]; have h := HA.out; rw [List.take_of_length_le (by rw [E4.out]; omega)] at h; rw [h, Bool.and_true])
          clear HA
          by_cases ew : s.way = 4
          · have tw : (s.way == 4) = true := by simpa using ew
            by_cases e5 : s.want = s.vsn + 1
            · have t5 : (s.want == s.vsn + 1) = true := by simpa using e5
              cases e6 : decide (s.want ≤ 9) with
              | true =>
                have R3 := Lib.hid (show okSt s = true by rw [R2.out]; unfold wantOk; rw [if_pos ew, decide_eq_true e5, e6]; rfl)
                clear ew e5
                go_wp2_with (first | ((with_reducible refine gate_box rfl ?_); refine aBx S ?_; clear S; intro g9 w9 z9 S) | ((with_reducible refine gate_load rfl ?_); first | refine aLd S ?_ | refine aPt S ?_ | refine aL1 S ?_))
                go_ret
                exact ⟨by rw [R3.out]; rfl, S.frame⟩
              | false =>
                have R3 := Lib.hid (show okSt s = false by rw [R2.out]; unfold wantOk; rw [if_pos ew, decide_eq_true e5, e6]; rfl)
                clear ew e5
                go_wp2_with (first | ((with_reducible refine gate_box rfl ?_); refine aBx S ?_; clear S; intro g9 w9 z9 S) | ((with_reducible refine gate_load rfl ?_); first | refine aLd S ?_ | refine aPt S ?_ | refine aL1 S ?_))
                go_ret
                exact ⟨by rw [R3.out]; rfl, S.frame⟩
            · have t5 : (s.want == s.vsn + 1) = false := by simpa using e5
              have R3 := Lib.hid (show okSt s = false by rw [R2.out]; unfold wantOk; rw [if_pos ew, decide_eq_false e5]; rfl)
              clear ew e5
              go_wp2_with (first | ((with_reducible refine gate_box rfl ?_); refine aBx S ?_; clear S; intro g9 w9 z9 S) | ((with_reducible refine gate_load rfl ?_); first | refine aLd S ?_ | refine aPt S ?_ | refine aL1 S ?_))
              go_ret
              exact ⟨by rw [R3.out]; rfl, S.frame⟩
          · have tw : (s.way == 4) = false := by simpa using ew
            have R3 := Lib.hid (show okSt s = (s.want == 0) by rw [R2.out]; unfold wantOk; rw [if_neg ew])
            clear ew
            go_wp2_with (first | ((with_reducible refine gate_box rfl ?_); refine aBx S ?_; clear S; intro g9 w9 z9 S) | ((with_reducible refine gate_load rfl ?_); first | refine aLd S ?_ | refine aPt S ?_ | refine aL1 S ?_))
            go_ret
            exact ⟨by rw [R3.out]; rfl, S.frame⟩
end Go.Proofs.Ytapdcgjccckjeaa
