/- The texts StOk2, StSetD, ChOk, ChOkS. -/
import Derived.Test.YtapdcgjccckjeaaPkFnChainNewD
namespace Go.Proofs.Ytapdcgjccckjeaa
set_option maxRecDepth 100000
set_option linter.unusedVariables false
set_option linter.unusedSimpArgs false
open Go.RowKit
theorem l6In_e (w : World) (n lo hi : Int) {r : Bool} (h : decide (lo ≤ n ∧ n ≤ hi) = r) : Calls Try.prog 61 #[.int .i64 n, .int .i64 lo, .int .i64 hi] w fun e w' => e = .returned (.bool r) ∧ w = w' := h ▸ l6In_c w n lo hi
set_option maxRecDepth 100000 in
set_option maxHeartbeats 6400000 in
theorem sStateOk_c (w : World) (s : St) (c0 : List Value) (h1 : tSt.rd w s c0) : Calls Try.prog 88 #[.agg c0.toArray] w (Ret (.bool (okSt s)) w) := by
  obtain ⟨v1, v2, v3, v4, rfl, h11, h12, h13, h14, h15⟩ := h1
  obtain ⟨A1, c1, rfl⟩ := h11.val
  obtain ⟨A2, c2, rfl⟩ := h12.val
  obtain ⟨A3, c3, rfl⟩ := h13.val
  obtain ⟨A4, c4, rfl⟩ := h14.val
  have m1 := h11.le
  have m2 := h12.le
  have m3 := h13.le
  have m4 := h14.le
  have S := Sep.start w
  clear h15
  cases a1 : decide (0 ≤ s.way ∧ s.way ≤ 4) with
  | false =>
    have r := Lib.hid (show okSt s = false by simp only [okSt, a1, Bool.false_and])
    have W1 := Lib.hid a1
    clear a1
    go_enter Try.func88, Try.ntmps88
    go_wp2_with (first
      | (go_at_call 61; (with_reducible refine (l6In_e _ s.way 0 4 W1.out).mono ?_); rintro e w9 ⟨rfl, rfl⟩)
      | ((with_reducible refine gate_box rfl ?_); refine aBx S ?_; clear S; intro g9 w9 z9 S) | ((with_reducible refine gate_load rfl ?_); first | refine aLd S ?_ | refine aPt S ?_ | refine aL1 S ?_))
    go_ret
    exact ⟨by rw [r.out]; rfl, S.frame⟩
  | true =>
  cases a2 : decide (1 ≤ s.vsn ∧ s.vsn ≤ 9) with
  | false =>
    have r := Lib.hid (show okSt s = false by simp only [okSt, a2, Bool.false_and, Bool.and_false])
    have W1 := Lib.hid a1
    have W2 := Lib.hid a2
    clear a1 a2
    go_enter Try.func88, Try.ntmps88
    go_wp2_with (first
      | (go_at_call 61; (with_reducible refine (l6In_e _ s.way 0 4 W1.out).mono ?_); rintro e w9 ⟨rfl, rfl⟩)
      | (go_at_call 61; (with_reducible refine (l6In_e _ s.vsn 1 9 W2.out).mono ?_); rintro e w9 ⟨rfl, rfl⟩)
      | ((with_reducible refine gate_box rfl ?_); refine aBx S ?_; clear S; intro g9 w9 z9 S) | ((with_reducible refine gate_load rfl ?_); first | refine aLd S ?_ | refine aPt S ?_ | refine aL1 S ?_))
    go_ret
    exact ⟨by rw [r.out]; rfl, S.frame⟩
  | true =>
  have R0 := Lib.hid (show okSt s = (wantOk s && sentOk s && gotOk s.got) by simp only [okSt, a1, a2, Bool.true_and])
  have W1 := Lib.hid a1
  have W2 := Lib.hid a2
  clear a1 a2
  by_cases e1 : s.sent.length ≤ 8
  case neg =>
    have r := Lib.hid (show okSt s = false by rw [R0.out]; simp [sentOk, e1])
    have t1 : decide ((8 : Int) < (s.sent.length : Int)) = true := decide_eq_true (by omega)
    clear e1
    go_enter Try.func88, Try.ntmps88
    go_wp2_with (first
      | (go_at_call 61; (with_reducible refine (l6In_e _ s.way 0 4 W1.out).mono ?_); rintro e w9 ⟨rfl, rfl⟩)
      | (go_at_call 61; (with_reducible refine (l6In_e _ s.vsn 1 9 W2.out).mono ?_); rintro e w9 ⟨rfl, rfl⟩)
      | ((with_reducible refine gate_box rfl ?_); refine aBx S ?_; clear S; intro g9 w9 z9 S) | ((with_reducible refine gate_load rfl ?_); first | refine aLd S ?_ | refine aPt S ?_ | refine aL1 S ?_))
    go_ret
    exact ⟨by rw [r.out]; rfl, S.frame⟩
  have t1 : decide ((8 : Int) < (s.sent.length : Int)) = false := decide_eq_false (by omega)
  by_cases e2 : s.live.length = s.sent.length
  case neg =>
    have r := Lib.hid (show okSt s = false by rw [R0.out]; simp [sentOk, e2])
    have t2 : ((s.live.length : Int) != (s.sent.length : Int)) = true := by simp; omega
    clear e2
    go_enter Try.func88, Try.ntmps88
    go_wp2_with (first
      | (go_at_call 61; (with_reducible refine (l6In_e _ s.way 0 4 W1.out).mono ?_); rintro e w9 ⟨rfl, rfl⟩)
      | (go_at_call 61; (with_reducible refine (l6In_e _ s.vsn 1 9 W2.out).mono ?_); rintro e w9 ⟨rfl, rfl⟩)
      | ((with_reducible refine gate_box rfl ?_); refine aBx S ?_; clear S; intro g9 w9 z9 S) | ((with_reducible refine gate_load rfl ?_); first | refine aLd S ?_ | refine aPt S ?_ | refine aL1 S ?_))
    go_ret
    exact ⟨by rw [r.out]; rfl, S.frame⟩
  by_cases e3 : s.back.length = s.sent.length
  case neg =>
    have r := Lib.hid (show okSt s = false by rw [R0.out]; simp [sentOk, e3])
    have t3 : ((s.back.length : Int) != (s.sent.length : Int)) = true := by simp; omega
    rw [e2]
    have E2 := Lib.hid e2
    clear e2
    clear e3
    go_enter Try.func88, Try.ntmps88
    go_wp2_with (first
      | (go_at_call 61; (with_reducible refine (l6In_e _ s.way 0 4 W1.out).mono ?_); rintro e w9 ⟨rfl, rfl⟩)
      | (go_at_call 61; (with_reducible refine (l6In_e _ s.vsn 1 9 W2.out).mono ?_); rintro e w9 ⟨rfl, rfl⟩)
      | ((with_reducible refine gate_box rfl ?_); refine aBx S ?_; clear S; intro g9 w9 z9 S) | ((with_reducible refine gate_load rfl ?_); first | refine aLd S ?_ | refine aPt S ?_ | refine aL1 S ?_))
    go_ret
    exact ⟨by rw [r.out]; rfl, S.frame⟩
  by_cases e4 : s.got.length = 8
  case neg =>
    have r := Lib.hid (show okSt s = false by rw [R0.out]; simp [gotOk, e4])
    have t4 : ((s.got.length : Int) != 8) = true := by simp; omega
    rw [e2, e3]
    have E2 := Lib.hid e2
    have E3 := Lib.hid e3
    clear e2 e3
    clear e4
    go_enter Try.func88, Try.ntmps88
    go_wp2_with (first
      | (go_at_call 61; (with_reducible refine (l6In_e _ s.way 0 4 W1.out).mono ?_); rintro e w9 ⟨rfl, rfl⟩)
      | (go_at_call 61; (with_reducible refine (l6In_e _ s.vsn 1 9 W2.out).mono ?_); rintro e w9 ⟨rfl, rfl⟩)
      | ((with_reducible refine gate_box rfl ?_); refine aBx S ?_; clear S; intro g9 w9 z9 S) | ((with_reducible refine gate_load rfl ?_); first | refine aLd S ?_ | refine aPt S ?_ | refine aL1 S ?_))
    go_ret
    exact ⟨by rw [r.out]; rfl, S.frame⟩
  obtain ⟨n, hn⟩ : ∃ n, s.sent.length = n := ⟨_, rfl⟩
  rw [hn] at e1 e2 e3 t1 m1 ⊢
  rw [e2, e3, e4]
  have E1 := Lib.hid hn
  have E2 := Lib.hid e2
  have E3 := Lib.hid e3
  have E4 := Lib.hid e4
  have SO := Lib.hid (show sentOk s = (List.range n).all (pksOk s) by rw [← hn]; simp only [sentOk, hn, e2, e3, decide_eq_true e1, beq_self_eq_true, Bool.true_and])
  have GO := Lib.hid (show gotOk s.got = s.got.all rng2 by simp only [gotOk, e4, beq_self_eq_true, Bool.true_and])
  clear hn e2 e3 e4 m1 m2 m3 m4
  go_enter Try.func88, Try.ntmps88
  go_wp2_with (first
      | ((with_reducible refine gate_dst (N := 1) rfl ?_); refine aBx S ?_; clear S; intro gS w9 z9 S)
      | (go_at_call 61; (with_reducible refine (l6In_e _ s.way 0 4 W1.out).mono ?_); rintro e w9 ⟨rfl, rfl⟩)
      | (go_at_call 61; (with_reducible refine (l6In_e _ s.vsn 1 9 W2.out).mono ?_); rintro e w9 ⟨rfl, rfl⟩)
      | ((with_reducible refine gate_box rfl ?_); refine aBx S ?_; clear S; intro g9 w9 z9 S) | ((with_reducible refine gate_load rfl ?_); first | refine aLd S ?_ | refine aPt S ?_ | refine aL1 S ?_))
  go_loopw [4] (fun i wr => ∃ k : Nat, k ≤ n ∧ i = .int .i64 k ∧ (List.range k).all (pksOk s) = true ∧ Sep [] w [aBox gS 30 7 [.int .i64 s.way, .int .i64 s.vsn, .int .i64 s.want, .slice A1 n c1, .slice A2 n c2, .slice A3 n c3, .slice A4 8 c4]] wr) (fun i _ => n - (intOf i).toNat)
  case atStart => exact ⟨0, Nat.zero_le _, rfl, rfl, S⟩
  case round =>
    clear S
    obtain ⟨k, hk, rfl, hall, S⟩ := hrel
    have HA := Lib.hid hall
    clear hall
    by_cases hlt : k < n
    · obtain ⟨ad1, rfl, g1⟩ := pkAt_of_row h11 k (by rw [E1.out]; exact hlt)
      obtain ⟨ad2, rfl, g2⟩ := row_bool_at h12 k (by rw [E2.out]; exact hlt)
      obtain ⟨ad3, rfl, g3⟩ := row_bool_at h13 k (by rw [E3.out]; exact hlt)
      have hat := pksOk_at (s := s) (k := k) (by rw [E1.out]; exact hlt) (by rw [E2.out]; exact hlt) (by rw [E3.out]; exact hlt)
      have hin : k < s.sent.length := by rw [E1.out]; exact hlt
      generalize s.sent[k]'(by rw [E1.out]; exact hlt) = x at *
      generalize s.live[k]'(by rw [E2.out]; exact hlt) = l at *
      generalize s.back[k]'(by rw [E3.out]; exact hlt) = b at *
      have HAT := Lib.hid hat
      have HIN := Lib.hid hin
      have G1 := Lib.hid g1
      have G2 := Lib.hid g2
      have G3 := Lib.hid g3
      have p1 : (k : Int) < (n : Int) := by omega
      have pw : IntKind.i64.wrap ((k : Int) + 1) = (k : Int) + 1 := IntWalk.i64_in _ (by omega)
      have H2 := Lib.hid (show w.cell? (ad2.add (k * 1)) = some (.bool l) by rw [Nat.mul_one]; exact g2)
      have H3 := Lib.hid (show w.cell? (ad3.add (k * 1)) = some (.bool b) by rw [Nat.mul_one]; exact g3)
      clear hat hin g1 g2 g3
      cases o1 : okPk x with
      | false =>
        have O1 := Lib.hid o1
        have R := Lib.hid (show okSt s = false by rw [R0.out, sentOk_bad (s := s) (k := k) HIN.out (by rw [HAT.out]; simp [pkAtOk, o1])]; simp)
        clear o1
        go_wp2
        have S0 := (Sep.only1 (a1 := aBox gS _ _ _) S delA)
        refine wp_region_noPanic ?_
        refine wp_region_held_drew (S := Sep _ _ _) (by kernel_rfl) S0.drew (fun _ => ?_)
        replace S := S.drew
        clear S0
        refine tk 0 ?_
        (try simp only [Act.put, List.setIfInBounds_toArray, List.set_cons_zero, List.set_cons_succ])
        refine tk 1 ?_
        (try simp only [Act.put, List.setIfInBounds_toArray, List.set_cons_zero, List.set_cons_succ])
        refine tk 2 ?_
        (try simp only [Act.put, List.setIfInBounds_toArray, List.set_cons_zero, List.set_cons_succ])
        refine tk 3 ?_
        (try simp only [Act.put, List.setIfInBounds_toArray, List.set_cons_zero, List.set_cons_succ])
        refine tk 4 ?_ (hy := by first | (refine' yields_pkld (p := x) ?ta 88 _ ?tb ?tc ?td _ ?te ?tf ?tg; (case ta => rfl); (case tb => rfl); (case tc => rfl); (case td => exact fun W hW => G1.out.fr hW.frame); (case te => exact Try.underlying88); (case tf => rfl); (case tg => exact ts88)))
        (try simp only [Act.put, List.setIfInBounds_toArray, List.set_cons_zero, List.set_cons_succ])
        refine rdy1 5 (fun K hK => ?_)
        go_simp; (skip; go_at_call 116; (with_reducible refine (sPacketOk_l _ x).mono ?_); rintro e w9 ⟨rfl, f9⟩; rw [O1.out]; replace S := S.fr f9; clear f9)
        (first | refine hK.out _ _ (S.sub subA) (fun _ => ?_) | (go_wp2_with fail; refine hK.out _ _ (S.sub subA) (fun _ => ?_)))
        clear hK K
        (try simp only [Act.put, List.setIfInBounds_toArray, List.set_cons_zero, List.set_cons_succ])
        refine tk 6 ?_
        (try simp only [Act.put, List.setIfInBounds_toArray, List.set_cons_zero, List.set_cons_succ])
        refine tk 7 ?_
        (try simp only [Act.put, List.setIfInBounds_toArray, List.set_cons_zero, List.set_cons_succ])
        refine tk 8 ?_
        (try simp only [Act.put, List.setIfInBounds_toArray, List.set_cons_zero, List.set_cons_succ])
        refine tk 9 ?_
        (try simp only [Act.put, List.setIfInBounds_toArray, List.set_cons_zero, List.set_cons_succ])
        refine tk 10 ?_
        (try simp only [Act.put, List.setIfInBounds_toArray, List.set_cons_zero, List.set_cons_succ])
        refine tk 11 ?_
        (try simp only [Act.put, List.setIfInBounds_toArray, List.set_cons_zero, List.set_cons_succ])
        refine tk 12 ?_
        (try simp only [Act.put, List.setIfInBounds_toArray, List.set_cons_zero, List.set_cons_succ])
        refine tk 13 ?_ (hy := by first | (refine' yields_cell (v := .int .i64 x.seq) ?ta 3 _ ?tb ?tc ?td _ ?te ?tf; (case ta => rfl); (case tb => rfl); (case tc => rfl); (case td => exact fun W hW => (G1.out.fr hW.frame).at_ 0 _ rfl); (case te => exact Try.underlying3); (case tf => rfl)) | (refine Or.inr ⟨by rfl, ?_⟩; rfl))
        (try simp only [Act.put, List.setIfInBounds_toArray, List.set_cons_zero, List.set_cons_succ])
        refine tk 14 ?_
        (try simp only [Act.put, List.setIfInBounds_toArray, List.set_cons_zero, List.set_cons_succ])
        refine tk 15 ?_
        (try simp only [Act.put, List.setIfInBounds_toArray, List.set_cons_zero, List.set_cons_succ])
        refine tk 16 ?_
        (try simp only [Act.put, List.setIfInBounds_toArray, List.set_cons_zero, List.set_cons_succ])
        refine tk 17 ?_
        (try simp only [Act.put, List.setIfInBounds_toArray, List.set_cons_zero, List.set_cons_succ])
        refine tk 18 ?_
        (try simp only [Act.put, List.setIfInBounds_toArray, List.set_cons_zero, List.set_cons_succ])
        refine tk 19 ?_
        (try simp only [Act.put, List.setIfInBounds_toArray, List.set_cons_zero, List.set_cons_succ])
        refine tk 20 ?_
        (try simp only [Act.put, List.setIfInBounds_toArray, List.set_cons_zero, List.set_cons_succ])
        refine tk 21 ?_
        (try simp only [Act.put, List.setIfInBounds_toArray, List.set_cons_zero, List.set_cons_succ])
        refine tk 22 ?_
        (try simp only [Act.put, List.setIfInBounds_toArray, List.set_cons_zero, List.set_cons_succ])
        refine tk 23 ?_ (hy := by first | (refine' yields_cell (v := .bool true) ?ta 4 _ ?tb ?tc ?td _ ?te ?tf; (case ta => rfl); (case tb => rfl); (case tc => rfl); (case td => exact fun W hW => hW.frame.cell G2.out); (case te => exact Try.underlying4); (case tf => rfl)) | (refine' yields_cell (v := .bool false) ?ta 4 _ ?tb ?tc ?td _ ?te ?tf; (case ta => rfl); (case tb => rfl); (case tc => rfl); (case td => exact fun W hW => hW.frame.cell G2.out); (case te => exact Try.underlying4); (case tf => rfl)) | (refine' yields_cell (v := .bool l) ?ta 4 _ ?tb ?tc ?td _ ?te ?tf; (case ta => rfl); (case tb => rfl); (case tc => rfl); (case td => exact fun W hW => hW.frame.cell G2.out); (case te => exact Try.underlying4); (case tf => rfl)) | (refine Or.inr ⟨by rfl, ?_⟩; rfl))
        (try simp only [Act.put, List.setIfInBounds_toArray, List.set_cons_zero, List.set_cons_succ])
        refine tk 24 ?_
        (try simp only [Act.put, List.setIfInBounds_toArray, List.set_cons_zero, List.set_cons_succ])
        refine tk 25 ?_
        (try simp only [Act.put, List.setIfInBounds_toArray, List.set_cons_zero, List.set_cons_succ])
        refine tk 26 ?_
        (try simp only [Act.put, List.setIfInBounds_toArray, List.set_cons_zero, List.set_cons_succ])
        refine tk 27 ?_
        (try simp only [Act.put, List.setIfInBounds_toArray, List.set_cons_zero, List.set_cons_succ])
        refine tk 28 ?_
        (try simp only [Act.put, List.setIfInBounds_toArray, List.set_cons_zero, List.set_cons_succ])
        refine tk 29 ?_ (hy := by first | (refine' yields_cell (v := .bool true) ?ta 4 _ ?tb ?tc ?td _ ?te ?tf; (case ta => rfl); (case tb => rfl); (case tc => rfl); (case td => exact fun W hW => hW.frame.cell G3.out); (case te => exact Try.underlying4); (case tf => rfl)) | (refine' yields_cell (v := .bool false) ?ta 4 _ ?tb ?tc ?td _ ?te ?tf; (case ta => rfl); (case tb => rfl); (case tc => rfl); (case td => exact fun W hW => hW.frame.cell G3.out); (case te => exact Try.underlying4); (case tf => rfl)) | (refine' yields_cell (v := .bool b) ?ta 4 _ ?tb ?tc ?td _ ?te ?tf; (case ta => rfl); (case tb => rfl); (case tc => rfl); (case td => exact fun W hW => hW.frame.cell G3.out); (case te => exact Try.underlying4); (case tf => rfl)) | (refine Or.inr ⟨by rfl, ?_⟩; rfl))
        (try simp only [Act.put, List.setIfInBounds_toArray, List.set_cons_zero, List.set_cons_succ])
        refine tk 30 ?_
        (try simp only [Act.put, List.setIfInBounds_toArray, List.set_cons_zero, List.set_cons_succ])
        refine tk 31 ?_
        (try simp only [Act.put, List.setIfInBounds_toArray, List.set_cons_zero, List.set_cons_succ])
        refine tk 32 ?_
        (try simp only [Act.put, List.setIfInBounds_toArray, List.set_cons_zero, List.set_cons_succ])
        refine tk 33 ?_
        (try simp only [Act.put, List.setIfInBounds_toArray, List.set_cons_zero, List.set_cons_succ])
        refine tk 34 ?_
        (try simp only [Act.put, List.setIfInBounds_toArray, List.set_cons_zero, List.set_cons_succ])
        refine tk 35 ?_
        (try simp only [Act.put, List.setIfInBounds_toArray, List.set_cons_zero, List.set_cons_succ])
        refine tk 36 ?_
        (try simp only [Act.put, List.setIfInBounds_toArray, List.set_cons_zero, List.set_cons_succ])
        refine tk 37 ?_
        (try simp only [Act.put, List.setIfInBounds_toArray, List.set_cons_zero, List.set_cons_succ])
        refine tk 38 ?_ (hy := by first | (refine' yields_cell (v := .int .i64 x.ver) ?ta 3 _ ?tb ?tc ?td _ ?te ?tf; (case ta => rfl); (case tb => rfl); (case tc => rfl); (case td => exact fun W hW => (G1.out.fr hW.frame).at_ 6 _ rfl); (case te => exact Try.underlying3); (case tf => rfl)) | (refine Or.inr ⟨by rfl, ?_⟩; rfl))
        (try simp only [Act.put, List.setIfInBounds_toArray, List.set_cons_zero, List.set_cons_succ])
        refine tk 39 ?_
        (try simp only [Act.put, List.setIfInBounds_toArray, List.set_cons_zero, List.set_cons_succ])
        refine tk 40 ?_
        (try simp only [Act.put, List.setIfInBounds_toArray, List.set_cons_zero, List.set_cons_succ])
        refine tk 41 ?_
        (try simp only [Act.put, List.setIfInBounds_toArray, List.set_cons_zero, List.set_cons_succ])
        refine tk 42 ?_
        (try simp only [Act.put, List.setIfInBounds_toArray, List.set_cons_zero, List.set_cons_succ])
        refine wpAnyH_done (by kernel_rfl) ?_ _
        refine NoPanic.normal ?_
        go_wp2
        go_ret
        exact ⟨by rw [R.out]; rfl, S.frame⟩
      | true =>
        have O1 := Lib.hid o1
        clear o1
        by_cases hq : x.seq = (k : Int) + 1
        case neg =>
          have tq : (x.seq != (k : Int) + 1) = true := by simpa using hq
          have R := Lib.hid (show okSt s = false by rw [R0.out, sentOk_bad (s := s) (k := k) HIN.out (by rw [HAT.out]; simp [pkAtOk, O1.out, hq])]; simp)
          clear hq
          go_wp2
          have S0 := (Sep.only1 (a1 := aBox gS _ _ _) S delA)
          refine wp_region_noPanic ?_
          refine wp_region_held_drew (S := Sep _ _ _) (by kernel_rfl) S0.drew (fun _ => ?_)
          replace S := S.drew
          clear S0
          refine tk 0 ?_
          (try simp only [Act.put, List.setIfInBounds_toArray, List.set_cons_zero, List.set_cons_succ])
          refine tk 1 ?_
          (try simp only [Act.put, List.setIfInBounds_toArray, List.set_cons_zero, List.set_cons_succ])
          refine tk 2 ?_
          (try simp only [Act.put, List.setIfInBounds_toArray, List.set_cons_zero, List.set_cons_succ])
          refine tk 3 ?_
          (try simp only [Act.put, List.setIfInBounds_toArray, List.set_cons_zero, List.set_cons_succ])
          refine tk 4 ?_ (hy := by first | (refine' yields_pkld (p := x) ?ta 88 _ ?tb ?tc ?td _ ?te ?tf ?tg; (case ta => rfl); (case tb => rfl); (case tc => rfl); (case td => exact fun W hW => G1.out.fr hW.frame); (case te => exact Try.underlying88); (case tf => rfl); (case tg => exact ts88)))
          (try simp only [Act.put, List.setIfInBounds_toArray, List.set_cons_zero, List.set_cons_succ])
          refine rdy1 5 (fun K hK => ?_)
          go_simp; (skip; go_at_call 116; (with_reducible refine (sPacketOk_l _ x).mono ?_); rintro e w9 ⟨rfl, f9⟩; rw [O1.out]; replace S := S.fr f9; clear f9)
          (first | refine hK.out _ _ (S.sub subA) (fun _ => ?_) | (go_wp2_with fail; refine hK.out _ _ (S.sub subA) (fun _ => ?_)))
          clear hK K
          (try simp only [Act.put, List.setIfInBounds_toArray, List.set_cons_zero, List.set_cons_succ])
          refine tk 6 ?_
          (try simp only [Act.put, List.setIfInBounds_toArray, List.set_cons_zero, List.set_cons_succ])
          refine tk 7 ?_
          (try simp only [Act.put, List.setIfInBounds_toArray, List.set_cons_zero, List.set_cons_succ])
          refine tk 8 ?_
          (try simp only [Act.put, List.setIfInBounds_toArray, List.set_cons_zero, List.set_cons_succ])
          refine tk 9 ?_
          (try simp only [Act.put, List.setIfInBounds_toArray, List.set_cons_zero, List.set_cons_succ])
          refine tk 10 ?_
          (try simp only [Act.put, List.setIfInBounds_toArray, List.set_cons_zero, List.set_cons_succ])
          refine tk 11 ?_
          (try simp only [Act.put, List.setIfInBounds_toArray, List.set_cons_zero, List.set_cons_succ])
          refine tk 12 ?_
          (try simp only [Act.put, List.setIfInBounds_toArray, List.set_cons_zero, List.set_cons_succ])
          refine tk 13 ?_ (hy := by first | (refine' yields_cell (v := .int .i64 x.seq) ?ta 3 _ ?tb ?tc ?td _ ?te ?tf; (case ta => rfl); (case tb => rfl); (case tc => rfl); (case td => exact fun W hW => (G1.out.fr hW.frame).at_ 0 _ rfl); (case te => exact Try.underlying3); (case tf => rfl)) | (refine Or.inr ⟨by rfl, ?_⟩; rfl))
          (try simp only [Act.put, List.setIfInBounds_toArray, List.set_cons_zero, List.set_cons_succ])
          refine tk 14 ?_
          (try simp only [Act.put, List.setIfInBounds_toArray, List.set_cons_zero, List.set_cons_succ])
          refine tk 15 ?_
          (try simp only [Act.put, List.setIfInBounds_toArray, List.set_cons_zero, List.set_cons_succ])
          refine tk 16 ?_
          (try simp only [Act.put, List.setIfInBounds_toArray, List.set_cons_zero, List.set_cons_succ])
          refine tk 17 ?_
          (try simp only [Act.put, List.setIfInBounds_toArray, List.set_cons_zero, List.set_cons_succ])
          refine tk 18 ?_
          (try simp only [Act.put, List.setIfInBounds_toArray, List.set_cons_zero, List.set_cons_succ])
          refine tk 19 ?_
          (try simp only [Act.put, List.setIfInBounds_toArray, List.set_cons_zero, List.set_cons_succ])
          refine tk 20 ?_
          (try simp only [Act.put, List.setIfInBounds_toArray, List.set_cons_zero, List.set_cons_succ])
          refine tk 21 ?_
          (try simp only [Act.put, List.setIfInBounds_toArray, List.set_cons_zero, List.set_cons_succ])
          refine tk 22 ?_
          (try simp only [Act.put, List.setIfInBounds_toArray, List.set_cons_zero, List.set_cons_succ])
          refine tk 23 ?_ (hy := by first | (refine' yields_cell (v := .bool true) ?ta 4 _ ?tb ?tc ?td _ ?te ?tf; (case ta => rfl); (case tb => rfl); (case tc => rfl); (case td => exact fun W hW => hW.frame.cell G2.out); (case te => exact Try.underlying4); (case tf => rfl)) | (refine' yields_cell (v := .bool false) ?ta 4 _ ?tb ?tc ?td _ ?te ?tf; (case ta => rfl); (case tb => rfl); (case tc => rfl); (case td => exact fun W hW => hW.frame.cell G2.out); (case te => exact Try.underlying4); (case tf => rfl)) | (refine' yields_cell (v := .bool l) ?ta 4 _ ?tb ?tc ?td _ ?te ?tf; (case ta => rfl); (case tb => rfl); (case tc => rfl); (case td => exact fun W hW => hW.frame.cell G2.out); (case te => exact Try.underlying4); (case tf => rfl)) | (refine Or.inr ⟨by rfl, ?_⟩; rfl))
          (try simp only [Act.put, List.setIfInBounds_toArray, List.set_cons_zero, List.set_cons_succ])
          refine tk 24 ?_
          (try simp only [Act.put, List.setIfInBounds_toArray, List.set_cons_zero, List.set_cons_succ])
          refine tk 25 ?_
          (try simp only [Act.put, List.setIfInBounds_toArray, List.set_cons_zero, List.set_cons_succ])
          refine tk 26 ?_
          (try simp only [Act.put, List.setIfInBounds_toArray, List.set_cons_zero, List.set_cons_succ])
          refine tk 27 ?_
          (try simp only [Act.put, List.setIfInBounds_toArray, List.set_cons_zero, List.set_cons_succ])
          refine tk 28 ?_
          (try simp only [Act.put, List.setIfInBounds_toArray, List.set_cons_zero, List.set_cons_succ])
          refine tk 29 ?_ (hy := by first | (refine' yields_cell (v := .bool true) ?ta 4 _ ?tb ?tc ?td _ ?te ?tf; (case ta => rfl); (case tb => rfl); (case tc => rfl); (case td => exact fun W hW => hW.frame.cell G3.out); (case te => exact Try.underlying4); (case tf => rfl)) | (refine' yields_cell (v := .bool false) ?ta 4 _ ?tb ?tc ?td _ ?te ?tf; (case ta => rfl); (case tb => rfl); (case tc => rfl); (case td => exact fun W hW => hW.frame.cell G3.out); (case te => exact Try.underlying4); (case tf => rfl)) | (refine' yields_cell (v := .bool b) ?ta 4 _ ?tb ?tc ?td _ ?te ?tf; (case ta => rfl); (case tb => rfl); (case tc => rfl); (case td => exact fun W hW => hW.frame.cell G3.out); (case te => exact Try.underlying4); (case tf => rfl)) | (refine Or.inr ⟨by rfl, ?_⟩; rfl))
          (try simp only [Act.put, List.setIfInBounds_toArray, List.set_cons_zero, List.set_cons_succ])
          refine tk 30 ?_
          (try simp only [Act.put, List.setIfInBounds_toArray, List.set_cons_zero, List.set_cons_succ])
          refine tk 31 ?_
          (try simp only [Act.put, List.setIfInBounds_toArray, List.set_cons_zero, List.set_cons_succ])
          refine tk 32 ?_
          (try simp only [Act.put, List.setIfInBounds_toArray, List.set_cons_zero, List.set_cons_succ])
          refine tk 33 ?_
          (try simp only [Act.put, List.setIfInBounds_toArray, List.set_cons_zero, List.set_cons_succ])
          refine tk 34 ?_
          (try simp only [Act.put, List.setIfInBounds_toArray, List.set_cons_zero, List.set_cons_succ])
          refine tk 35 ?_
          (try simp only [Act.put, List.setIfInBounds_toArray, List.set_cons_zero, List.set_cons_succ])
          refine tk 36 ?_
          (try simp only [Act.put, List.setIfInBounds_toArray, List.set_cons_zero, List.set_cons_succ])
          refine tk 37 ?_
          (try simp only [Act.put, List.setIfInBounds_toArray, List.set_cons_zero, List.set_cons_succ])
          refine tk 38 ?_ (hy := by first | (refine' yields_cell (v := .int .i64 x.ver) ?ta 3 _ ?tb ?tc ?td _ ?te ?tf; (case ta => rfl); (case tb => rfl); (case tc => rfl); (case td => exact fun W hW => (G1.out.fr hW.frame).at_ 6 _ rfl); (case te => exact Try.underlying3); (case tf => rfl)) | (refine Or.inr ⟨by rfl, ?_⟩; rfl))
          (try simp only [Act.put, List.setIfInBounds_toArray, List.set_cons_zero, List.set_cons_succ])
          refine tk 39 ?_
          (try simp only [Act.put, List.setIfInBounds_toArray, List.set_cons_zero, List.set_cons_succ])
          refine tk 40 ?_
          (try simp only [Act.put, List.setIfInBounds_toArray, List.set_cons_zero, List.set_cons_succ])
          refine tk 41 ?_
          (try simp only [Act.put, List.setIfInBounds_toArray, List.set_cons_zero, List.set_cons_succ])
          refine tk 42 ?_
          (try simp only [Act.put, List.setIfInBounds_toArray, List.set_cons_zero, List.set_cons_succ])
          refine wpAnyH_done (by kernel_rfl) ?_ _
          refine NoPanic.normal ?_
          go_wp2
          go_ret
          exact ⟨by rw [R.out]; rfl, S.frame⟩
        have tq : (x.seq != (k : Int) + 1) = false := by simpa using hq
        cases hlb : (l && b) with
        | true =>
          simp only [Bool.and_eq_true] at hlb
          obtain ⟨rfl, rfl⟩ := hlb
          have R := Lib.hid (show okSt s = false by rw [R0.out, sentOk_bad (s := s) (k := k) HIN.out (by rw [HAT.out]; simp [pkAtOk, O1.out, hq])]; simp)
          clear hq
          go_wp2
          have S0 := (Sep.only1 (a1 := aBox gS _ _ _) S delA)
          refine wp_region_noPanic ?_
          refine wp_region_held_drew (S := Sep _ _ _) (by kernel_rfl) S0.drew (fun _ => ?_)
          replace S := S.drew
          clear S0
          refine tk 0 ?_
          (try simp only [Act.put, List.setIfInBounds_toArray, List.set_cons_zero, List.set_cons_succ])
          refine tk 1 ?_
          (try simp only [Act.put, List.setIfInBounds_toArray, List.set_cons_zero, List.set_cons_succ])
          refine tk 2 ?_
          (try simp only [Act.put, List.setIfInBounds_toArray, List.set_cons_zero, List.set_cons_succ])
          refine tk 3 ?_
          (try simp only [Act.put, List.setIfInBounds_toArray, List.set_cons_zero, List.set_cons_succ])
          refine tk 4 ?_ (hy := by first | (refine' yields_pkld (p := x) ?ta 88 _ ?tb ?tc ?td _ ?te ?tf ?tg; (case ta => rfl); (case tb => rfl); (case tc => rfl); (case td => exact fun W hW => G1.out.fr hW.frame); (case te => exact Try.underlying88); (case tf => rfl); (case tg => exact ts88)))
          (try simp only [Act.put, List.setIfInBounds_toArray, List.set_cons_zero, List.set_cons_succ])
          refine rdy1 5 (fun K hK => ?_)
          go_simp; (skip; go_at_call 116; (with_reducible refine (sPacketOk_l _ x).mono ?_); rintro e w9 ⟨rfl, f9⟩; rw [O1.out]; replace S := S.fr f9; clear f9)
          (first | refine hK.out _ _ (S.sub subA) (fun _ => ?_) | (go_wp2_with fail; refine hK.out _ _ (S.sub subA) (fun _ => ?_)))
          clear hK K
          (try simp only [Act.put, List.setIfInBounds_toArray, List.set_cons_zero, List.set_cons_succ])
          refine tk 6 ?_
          (try simp only [Act.put, List.setIfInBounds_toArray, List.set_cons_zero, List.set_cons_succ])
          refine tk 7 ?_
          (try simp only [Act.put, List.setIfInBounds_toArray, List.set_cons_zero, List.set_cons_succ])
          refine tk 8 ?_
          (try simp only [Act.put, List.setIfInBounds_toArray, List.set_cons_zero, List.set_cons_succ])
          refine tk 9 ?_
          (try simp only [Act.put, List.setIfInBounds_toArray, List.set_cons_zero, List.set_cons_succ])
          refine tk 10 ?_
          (try simp only [Act.put, List.setIfInBounds_toArray, List.set_cons_zero, List.set_cons_succ])
          refine tk 11 ?_
          (try simp only [Act.put, List.setIfInBounds_toArray, List.set_cons_zero, List.set_cons_succ])
          refine tk 12 ?_
          (try simp only [Act.put, List.setIfInBounds_toArray, List.set_cons_zero, List.set_cons_succ])
          refine tk 13 ?_ (hy := by first | (refine' yields_cell (v := .int .i64 x.seq) ?ta 3 _ ?tb ?tc ?td _ ?te ?tf; (case ta => rfl); (case tb => rfl); (case tc => rfl); (case td => exact fun W hW => (G1.out.fr hW.frame).at_ 0 _ rfl); (case te => exact Try.underlying3); (case tf => rfl)) | (refine Or.inr ⟨by rfl, ?_⟩; rfl))
          (try simp only [Act.put, List.setIfInBounds_toArray, List.set_cons_zero, List.set_cons_succ])
          refine tk 14 ?_
          (try simp only [Act.put, List.setIfInBounds_toArray, List.set_cons_zero, List.set_cons_succ])
          refine tk 15 ?_
          (try simp only [Act.put, List.setIfInBounds_toArray, List.set_cons_zero, List.set_cons_succ])
          refine tk 16 ?_
          (try simp only [Act.put, List.setIfInBounds_toArray, List.set_cons_zero, List.set_cons_succ])
          refine tk 17 ?_
          (try simp only [Act.put, List.setIfInBounds_toArray, List.set_cons_zero, List.set_cons_succ])
          refine tk 18 ?_
          (try simp only [Act.put, List.setIfInBounds_toArray, List.set_cons_zero, List.set_cons_succ])
          refine tk 19 ?_
          (try simp only [Act.put, List.setIfInBounds_toArray, List.set_cons_zero, List.set_cons_succ])
          refine tk 20 ?_
          (try simp only [Act.put, List.setIfInBounds_toArray, List.set_cons_zero, List.set_cons_succ])
          refine tk 21 ?_
          (try simp only [Act.put, List.setIfInBounds_toArray, List.set_cons_zero, List.set_cons_succ])
          refine tk 22 ?_
          (try simp only [Act.put, List.setIfInBounds_toArray, List.set_cons_zero, List.set_cons_succ])
          refine tk 23 ?_ (hy := by first | (refine' yields_cell (v := .bool true) ?ta 4 _ ?tb ?tc ?td _ ?te ?tf; (case ta => rfl); (case tb => rfl); (case tc => rfl); (case td => exact fun W hW => hW.frame.cell G2.out); (case te => exact Try.underlying4); (case tf => rfl)) | (refine' yields_cell (v := .bool false) ?ta 4 _ ?tb ?tc ?td _ ?te ?tf; (case ta => rfl); (case tb => rfl); (case tc => rfl); (case td => exact fun W hW => hW.frame.cell G2.out); (case te => exact Try.underlying4); (case tf => rfl)) | (refine' yields_cell (v := .bool l) ?ta 4 _ ?tb ?tc ?td _ ?te ?tf; (case ta => rfl); (case tb => rfl); (case tc => rfl); (case td => exact fun W hW => hW.frame.cell G2.out); (case te => exact Try.underlying4); (case tf => rfl)) | (refine Or.inr ⟨by rfl, ?_⟩; rfl))
          (try simp only [Act.put, List.setIfInBounds_toArray, List.set_cons_zero, List.set_cons_succ])
          refine tk 24 ?_
          (try simp only [Act.put, List.setIfInBounds_toArray, List.set_cons_zero, List.set_cons_succ])
          refine tk 25 ?_
          (try simp only [Act.put, List.setIfInBounds_toArray, List.set_cons_zero, List.set_cons_succ])
          refine tk 26 ?_
          (try simp only [Act.put, List.setIfInBounds_toArray, List.set_cons_zero, List.set_cons_succ])
          refine tk 27 ?_
          (try simp only [Act.put, List.setIfInBounds_toArray, List.set_cons_zero, List.set_cons_succ])
          refine tk 28 ?_
          (try simp only [Act.put, List.setIfInBounds_toArray, List.set_cons_zero, List.set_cons_succ])
          refine tk 29 ?_ (hy := by first | (refine' yields_cell (v := .bool true) ?ta 4 _ ?tb ?tc ?td _ ?te ?tf; (case ta => rfl); (case tb => rfl); (case tc => rfl); (case td => exact fun W hW => hW.frame.cell G3.out); (case te => exact Try.underlying4); (case tf => rfl)) | (refine' yields_cell (v := .bool false) ?ta 4 _ ?tb ?tc ?td _ ?te ?tf; (case ta => rfl); (case tb => rfl); (case tc => rfl); (case td => exact fun W hW => hW.frame.cell G3.out); (case te => exact Try.underlying4); (case tf => rfl)) | (refine' yields_cell (v := .bool b) ?ta 4 _ ?tb ?tc ?td _ ?te ?tf; (case ta => rfl); (case tb => rfl); (case tc => rfl); (case td => exact fun W hW => hW.frame.cell G3.out); (case te => exact Try.underlying4); (case tf => rfl)) | (refine Or.inr ⟨by rfl, ?_⟩; rfl))
          (try simp only [Act.put, List.setIfInBounds_toArray, List.set_cons_zero, List.set_cons_succ])
          refine tk 30 ?_
          (try simp only [Act.put, List.setIfInBounds_toArray, List.set_cons_zero, List.set_cons_succ])
          refine tk 31 ?_
          (try simp only [Act.put, List.setIfInBounds_toArray, List.set_cons_zero, List.set_cons_succ])
          refine tk 32 ?_
          (try simp only [Act.put, List.setIfInBounds_toArray, List.set_cons_zero, List.set_cons_succ])
          refine tk 33 ?_
          (try simp only [Act.put, List.setIfInBounds_toArray, List.set_cons_zero, List.set_cons_succ])
          refine tk 34 ?_
          (try simp only [Act.put, List.setIfInBounds_toArray, List.set_cons_zero, List.set_cons_succ])
          refine tk 35 ?_
          (try simp only [Act.put, List.setIfInBounds_toArray, List.set_cons_zero, List.set_cons_succ])
          refine tk 36 ?_
          (try simp only [Act.put, List.setIfInBounds_toArray, List.set_cons_zero, List.set_cons_succ])
          refine tk 37 ?_
          (try simp only [Act.put, List.setIfInBounds_toArray, List.set_cons_zero, List.set_cons_succ])
          refine tk 38 ?_ (hy := by first | (refine' yields_cell (v := .int .i64 x.ver) ?ta 3 _ ?tb ?tc ?td _ ?te ?tf; (case ta => rfl); (case tb => rfl); (case tc => rfl); (case td => exact fun W hW => (G1.out.fr hW.frame).at_ 6 _ rfl); (case te => exact Try.underlying3); (case tf => rfl)) | (refine Or.inr ⟨by rfl, ?_⟩; rfl))
          (try simp only [Act.put, List.setIfInBounds_toArray, List.set_cons_zero, List.set_cons_succ])
          refine tk 39 ?_
          (try simp only [Act.put, List.setIfInBounds_toArray, List.set_cons_zero, List.set_cons_succ])
          refine tk 40 ?_
          (try simp only [Act.put, List.setIfInBounds_toArray, List.set_cons_zero, List.set_cons_succ])
          refine tk 41 ?_
          (try simp only [Act.put, List.setIfInBounds_toArray, List.set_cons_zero, List.set_cons_succ])
          refine tk 42 ?_
          (try simp only [Act.put, List.setIfInBounds_toArray, List.set_cons_zero, List.set_cons_succ])
          refine wpAnyH_done (by kernel_rfl) ?_ _
          refine NoPanic.normal ?_
          go_wp2
          go_ret
          exact ⟨by rw [R.out]; rfl, S.frame⟩
        | false =>
        by_cases hv : x.ver ≤ s.vsn
        case neg =>
          have tv : decide (s.vsn < x.ver) = true := decide_eq_true (by omega)
          have R := Lib.hid (show okSt s = false by rw [R0.out, sentOk_bad (s := s) (k := k) HIN.out (by rw [HAT.out]; simp [pkAtOk, O1.out, hv])]; simp)
          clear hq hv
          cases l with
          | false =>
            clear hlb
            go_wp2
            have S0 := (Sep.only1 (a1 := aBox gS _ _ _) S delA)
            refine wp_region_noPanic ?_
            refine wp_region_held_drew (S := Sep _ _ _) (by kernel_rfl) S0.drew (fun _ => ?_)
            replace S := S.drew
            clear S0
            refine tk 0 ?_
            (try simp only [Act.put, List.setIfInBounds_toArray, List.set_cons_zero, List.set_cons_succ])
            refine tk 1 ?_
            (try simp only [Act.put, List.setIfInBounds_toArray, List.set_cons_zero, List.set_cons_succ])
            refine tk 2 ?_
            (try simp only [Act.put, List.setIfInBounds_toArray, List.set_cons_zero, List.set_cons_succ])
            refine tk 3 ?_
            (try simp only [Act.put, List.setIfInBounds_toArray, List.set_cons_zero, List.set_cons_succ])
            refine tk 4 ?_ (hy := by first | (refine' yields_pkld (p := x) ?ta 88 _ ?tb ?tc ?td _ ?te ?tf ?tg; (case ta => rfl); (case tb => rfl); (case tc => rfl); (case td => exact fun W hW => G1.out.fr hW.frame); (case te => exact Try.underlying88); (case tf => rfl); (case tg => exact ts88)))
            (try simp only [Act.put, List.setIfInBounds_toArray, List.set_cons_zero, List.set_cons_succ])
            refine rdy1 5 (fun K hK => ?_)
            go_simp; (skip; go_at_call 116; (with_reducible refine (sPacketOk_l _ x).mono ?_); rintro e w9 ⟨rfl, f9⟩; rw [O1.out]; replace S := S.fr f9; clear f9)
            (first | refine hK.out _ _ (S.sub subA) (fun _ => ?_) | (go_wp2_with fail; refine hK.out _ _ (S.sub subA) (fun _ => ?_)))
            clear hK K
            (try simp only [Act.put, List.setIfInBounds_toArray, List.set_cons_zero, List.set_cons_succ])
            refine tk 6 ?_
            (try simp only [Act.put, List.setIfInBounds_toArray, List.set_cons_zero, List.set_cons_succ])
            refine tk 7 ?_
            (try simp only [Act.put, List.setIfInBounds_toArray, List.set_cons_zero, List.set_cons_succ])
            refine tk 8 ?_
            (try simp only [Act.put, List.setIfInBounds_toArray, List.set_cons_zero, List.set_cons_succ])
            refine tk 9 ?_
            (try simp only [Act.put, List.setIfInBounds_toArray, List.set_cons_zero, List.set_cons_succ])
            refine tk 10 ?_
            (try simp only [Act.put, List.setIfInBounds_toArray, List.set_cons_zero, List.set_cons_succ])
            refine tk 11 ?_
            (try simp only [Act.put, List.setIfInBounds_toArray, List.set_cons_zero, List.set_cons_succ])
            refine tk 12 ?_
            (try simp only [Act.put, List.setIfInBounds_toArray, List.set_cons_zero, List.set_cons_succ])
            refine tk 13 ?_ (hy := by first | (refine' yields_cell (v := .int .i64 x.seq) ?ta 3 _ ?tb ?tc ?td _ ?te ?tf; (case ta => rfl); (case tb => rfl); (case tc => rfl); (case td => exact fun W hW => (G1.out.fr hW.frame).at_ 0 _ rfl); (case te => exact Try.underlying3); (case tf => rfl)) | (refine Or.inr ⟨by rfl, ?_⟩; rfl))
            (try simp only [Act.put, List.setIfInBounds_toArray, List.set_cons_zero, List.set_cons_succ])
            refine tk 14 ?_
            (try simp only [Act.put, List.setIfInBounds_toArray, List.set_cons_zero, List.set_cons_succ])
            refine tk 15 ?_
            (try simp only [Act.put, List.setIfInBounds_toArray, List.set_cons_zero, List.set_cons_succ])
            refine tk 16 ?_
            (try simp only [Act.put, List.setIfInBounds_toArray, List.set_cons_zero, List.set_cons_succ])
            refine tk 17 ?_
            (try simp only [Act.put, List.setIfInBounds_toArray, List.set_cons_zero, List.set_cons_succ])
            refine tk 18 ?_
            (try simp only [Act.put, List.setIfInBounds_toArray, List.set_cons_zero, List.set_cons_succ])
            refine tk 19 ?_
            (try simp only [Act.put, List.setIfInBounds_toArray, List.set_cons_zero, List.set_cons_succ])
            refine tk 20 ?_
            (try simp only [Act.put, List.setIfInBounds_toArray, List.set_cons_zero, List.set_cons_succ])
            refine tk 21 ?_
            (try simp only [Act.put, List.setIfInBounds_toArray, List.set_cons_zero, List.set_cons_succ])
            refine tk 22 ?_
            (try simp only [Act.put, List.setIfInBounds_toArray, List.set_cons_zero, List.set_cons_succ])
            refine tk 23 ?_ (hy := by first | (refine' yields_cell (v := .bool true) ?ta 4 _ ?tb ?tc ?td _ ?te ?tf; (case ta => rfl); (case tb => rfl); (case tc => rfl); (case td => exact fun W hW => hW.frame.cell G2.out); (case te => exact Try.underlying4); (case tf => rfl)) | (refine' yields_cell (v := .bool false) ?ta 4 _ ?tb ?tc ?td _ ?te ?tf; (case ta => rfl); (case tb => rfl); (case tc => rfl); (case td => exact fun W hW => hW.frame.cell G2.out); (case te => exact Try.underlying4); (case tf => rfl)) | (refine' yields_cell (v := .bool l) ?ta 4 _ ?tb ?tc ?td _ ?te ?tf; (case ta => rfl); (case tb => rfl); (case tc => rfl); (case td => exact fun W hW => hW.frame.cell G2.out); (case te => exact Try.underlying4); (case tf => rfl)) | (refine Or.inr ⟨by rfl, ?_⟩; rfl))
            (try simp only [Act.put, List.setIfInBounds_toArray, List.set_cons_zero, List.set_cons_succ])
            refine tk 24 ?_
            (try simp only [Act.put, List.setIfInBounds_toArray, List.set_cons_zero, List.set_cons_succ])
            refine tk 25 ?_
            (try simp only [Act.put, List.setIfInBounds_toArray, List.set_cons_zero, List.set_cons_succ])
            refine tk 26 ?_
            (try simp only [Act.put, List.setIfInBounds_toArray, List.set_cons_zero, List.set_cons_succ])
            refine tk 27 ?_
            (try simp only [Act.put, List.setIfInBounds_toArray, List.set_cons_zero, List.set_cons_succ])
            refine tk 28 ?_
            (try simp only [Act.put, List.setIfInBounds_toArray, List.set_cons_zero, List.set_cons_succ])
            refine tk 29 ?_ (hy := by first | (refine' yields_cell (v := .bool true) ?ta 4 _ ?tb ?tc ?td _ ?te ?tf; (case ta => rfl); (case tb => rfl); (case tc => rfl); (case td => exact fun W hW => hW.frame.cell G3.out); (case te => exact Try.underlying4); (case tf => rfl)) | (refine' yields_cell (v := .bool false) ?ta 4 _ ?tb ?tc ?td _ ?te ?tf; (case ta => rfl); (case tb => rfl); (case tc => rfl); (case td => exact fun W hW => hW.frame.cell G3.out); (case te => exact Try.underlying4); (case tf => rfl)) | (refine' yields_cell (v := .bool b) ?ta 4 _ ?tb ?tc ?td _ ?te ?tf; (case ta => rfl); (case tb => rfl); (case tc => rfl); (case td => exact fun W hW => hW.frame.cell G3.out); (case te => exact Try.underlying4); (case tf => rfl)) | (refine Or.inr ⟨by rfl, ?_⟩; rfl))
            (try simp only [Act.put, List.setIfInBounds_toArray, List.set_cons_zero, List.set_cons_succ])
            refine tk 30 ?_
            (try simp only [Act.put, List.setIfInBounds_toArray, List.set_cons_zero, List.set_cons_succ])
            refine tk 31 ?_
            (try simp only [Act.put, List.setIfInBounds_toArray, List.set_cons_zero, List.set_cons_succ])
            refine tk 32 ?_
            (try simp only [Act.put, List.setIfInBounds_toArray, List.set_cons_zero, List.set_cons_succ])
            refine tk 33 ?_
            (try simp only [Act.put, List.setIfInBounds_toArray, List.set_cons_zero, List.set_cons_succ])
            refine tk 34 ?_
            (try simp only [Act.put, List.setIfInBounds_toArray, List.set_cons_zero, List.set_cons_succ])
            refine tk 35 ?_
            (try simp only [Act.put, List.setIfInBounds_toArray, List.set_cons_zero, List.set_cons_succ])
            refine tk 36 ?_
            (try simp only [Act.put, List.setIfInBounds_toArray, List.set_cons_zero, List.set_cons_succ])
            refine tk 37 ?_
            (try simp only [Act.put, List.setIfInBounds_toArray, List.set_cons_zero, List.set_cons_succ])
            refine tk 38 ?_ (hy := by first | (refine' yields_cell (v := .int .i64 x.ver) ?ta 3 _ ?tb ?tc ?td _ ?te ?tf; (case ta => rfl); (case tb => rfl); (case tc => rfl); (case td => exact fun W hW => (G1.out.fr hW.frame).at_ 6 _ rfl); (case te => exact Try.underlying3); (case tf => rfl)) | (refine Or.inr ⟨by rfl, ?_⟩; rfl))
            (try simp only [Act.put, List.setIfInBounds_toArray, List.set_cons_zero, List.set_cons_succ])
            refine tk 39 ?_
            (try simp only [Act.put, List.setIfInBounds_toArray, List.set_cons_zero, List.set_cons_succ])
            refine tk 40 ?_
            (try simp only [Act.put, List.setIfInBounds_toArray, List.set_cons_zero, List.set_cons_succ])
            refine tk 41 ?_
            (try simp only [Act.put, List.setIfInBounds_toArray, List.set_cons_zero, List.set_cons_succ])
            refine tk 42 ?_
            (try simp only [Act.put, List.setIfInBounds_toArray, List.set_cons_zero, List.set_cons_succ])
            refine wpAnyH_done (by kernel_rfl) ?_ _
            refine NoPanic.normal ?_
            go_wp2
            go_ret
            exact ⟨by rw [R.out]; rfl, S.frame⟩
          | true =>
            simp only [Bool.true_and] at hlb
            subst hlb
            go_wp2
            have S0 := (Sep.only1 (a1 := aBox gS _ _ _) S delA)
            refine wp_region_noPanic ?_
            refine wp_region_held_drew (S := Sep _ _ _) (by kernel_rfl) S0.drew (fun _ => ?_)
            replace S := S.drew
            clear S0
            refine tk 0 ?_
            (try simp only [Act.put, List.setIfInBounds_toArray, List.set_cons_zero, List.set_cons_succ])
            refine tk 1 ?_
            (try simp only [Act.put, List.setIfInBounds_toArray, List.set_cons_zero, List.set_cons_succ])
            refine tk 2 ?_
            (try simp only [Act.put, List.setIfInBounds_toArray, List.set_cons_zero, List.set_cons_succ])
            refine tk 3 ?_
            (try simp only [Act.put, List.setIfInBounds_toArray, List.set_cons_zero, List.set_cons_succ])
            refine tk 4 ?_ (hy := by first | (refine' yields_pkld (p := x) ?ta 88 _ ?tb ?tc ?td _ ?te ?tf ?tg; (case ta => rfl); (case tb => rfl); (case tc => rfl); (case td => exact fun W hW => G1.out.fr hW.frame); (case te => exact Try.underlying88); (case tf => rfl); (case tg => exact ts88)))
            (try simp only [Act.put, List.setIfInBounds_toArray, List.set_cons_zero, List.set_cons_succ])
            refine rdy1 5 (fun K hK => ?_)
            go_simp; (skip; go_at_call 116; (with_reducible refine (sPacketOk_l _ x).mono ?_); rintro e w9 ⟨rfl, f9⟩; rw [O1.out]; replace S := S.fr f9; clear f9)
            (first | refine hK.out _ _ (S.sub subA) (fun _ => ?_) | (go_wp2_with fail; refine hK.out _ _ (S.sub subA) (fun _ => ?_)))
            clear hK K
            (try simp only [Act.put, List.setIfInBounds_toArray, List.set_cons_zero, List.set_cons_succ])
            refine tk 6 ?_
            (try simp only [Act.put, List.setIfInBounds_toArray, List.set_cons_zero, List.set_cons_succ])
            refine tk 7 ?_
            (try simp only [Act.put, List.setIfInBounds_toArray, List.set_cons_zero, List.set_cons_succ])
            refine tk 8 ?_
            (try simp only [Act.put, List.setIfInBounds_toArray, List.set_cons_zero, List.set_cons_succ])
            refine tk 9 ?_
            (try simp only [Act.put, List.setIfInBounds_toArray, List.set_cons_zero, List.set_cons_succ])
            refine tk 10 ?_
            (try simp only [Act.put, List.setIfInBounds_toArray, List.set_cons_zero, List.set_cons_succ])
            refine tk 11 ?_
            (try simp only [Act.put, List.setIfInBounds_toArray, List.set_cons_zero, List.set_cons_succ])
            refine tk 12 ?_
            (try simp only [Act.put, List.setIfInBounds_toArray, List.set_cons_zero, List.set_cons_succ])
            refine tk 13 ?_ (hy := by first | (refine' yields_cell (v := .int .i64 x.seq) ?ta 3 _ ?tb ?tc ?td _ ?te ?tf; (case ta => rfl); (case tb => rfl); (case tc => rfl); (case td => exact fun W hW => (G1.out.fr hW.frame).at_ 0 _ rfl); (case te => exact Try.underlying3); (case tf => rfl)) | (refine Or.inr ⟨by rfl, ?_⟩; rfl))
            (try simp only [Act.put, List.setIfInBounds_toArray, List.set_cons_zero, List.set_cons_succ])
            refine tk 14 ?_
            (try simp only [Act.put, List.setIfInBounds_toArray, List.set_cons_zero, List.set_cons_succ])
            refine tk 15 ?_
            (try simp only [Act.put, List.setIfInBounds_toArray, List.set_cons_zero, List.set_cons_succ])
            refine tk 16 ?_
            (try simp only [Act.put, List.setIfInBounds_toArray, List.set_cons_zero, List.set_cons_succ])
            refine tk 17 ?_
            (try simp only [Act.put, List.setIfInBounds_toArray, List.set_cons_zero, List.set_cons_succ])
            refine tk 18 ?_
            (try simp only [Act.put, List.setIfInBounds_toArray, List.set_cons_zero, List.set_cons_succ])
            refine tk 19 ?_
            (try simp only [Act.put, List.setIfInBounds_toArray, List.set_cons_zero, List.set_cons_succ])
            refine tk 20 ?_
            (try simp only [Act.put, List.setIfInBounds_toArray, List.set_cons_zero, List.set_cons_succ])
            refine tk 21 ?_
            (try simp only [Act.put, List.setIfInBounds_toArray, List.set_cons_zero, List.set_cons_succ])
            refine tk 22 ?_
            (try simp only [Act.put, List.setIfInBounds_toArray, List.set_cons_zero, List.set_cons_succ])
            refine tk 23 ?_ (hy := by first | (refine' yields_cell (v := .bool true) ?ta 4 _ ?tb ?tc ?td _ ?te ?tf; (case ta => rfl); (case tb => rfl); (case tc => rfl); (case td => exact fun W hW => hW.frame.cell G2.out); (case te => exact Try.underlying4); (case tf => rfl)) | (refine' yields_cell (v := .bool false) ?ta 4 _ ?tb ?tc ?td _ ?te ?tf; (case ta => rfl); (case tb => rfl); (case tc => rfl); (case td => exact fun W hW => hW.frame.cell G2.out); (case te => exact Try.underlying4); (case tf => rfl)) | (refine' yields_cell (v := .bool l) ?ta 4 _ ?tb ?tc ?td _ ?te ?tf; (case ta => rfl); (case tb => rfl); (case tc => rfl); (case td => exact fun W hW => hW.frame.cell G2.out); (case te => exact Try.underlying4); (case tf => rfl)) | (refine Or.inr ⟨by rfl, ?_⟩; rfl))
            (try simp only [Act.put, List.setIfInBounds_toArray, List.set_cons_zero, List.set_cons_succ])
            refine tk 24 ?_
            (try simp only [Act.put, List.setIfInBounds_toArray, List.set_cons_zero, List.set_cons_succ])
            refine tk 25 ?_
            (try simp only [Act.put, List.setIfInBounds_toArray, List.set_cons_zero, List.set_cons_succ])
            refine tk 26 ?_
            (try simp only [Act.put, List.setIfInBounds_toArray, List.set_cons_zero, List.set_cons_succ])
            refine tk 27 ?_
            (try simp only [Act.put, List.setIfInBounds_toArray, List.set_cons_zero, List.set_cons_succ])
            refine tk 28 ?_
            (try simp only [Act.put, List.setIfInBounds_toArray, List.set_cons_zero, List.set_cons_succ])
            refine tk 29 ?_ (hy := by first | (refine' yields_cell (v := .bool true) ?ta 4 _ ?tb ?tc ?td _ ?te ?tf; (case ta => rfl); (case tb => rfl); (case tc => rfl); (case td => exact fun W hW => hW.frame.cell G3.out); (case te => exact Try.underlying4); (case tf => rfl)) | (refine' yields_cell (v := .bool false) ?ta 4 _ ?tb ?tc ?td _ ?te ?tf; (case ta => rfl); (case tb => rfl); (case tc => rfl); (case td => exact fun W hW => hW.frame.cell G3.out); (case te => exact Try.underlying4); (case tf => rfl)) | (refine' yields_cell (v := .bool b) ?ta 4 _ ?tb ?tc ?td _ ?te ?tf; (case ta => rfl); (case tb => rfl); (case tc => rfl); (case td => exact fun W hW => hW.frame.cell G3.out); (case te => exact Try.underlying4); (case tf => rfl)) | (refine Or.inr ⟨by rfl, ?_⟩; rfl))
            (try simp only [Act.put, List.setIfInBounds_toArray, List.set_cons_zero, List.set_cons_succ])
            refine tk 30 ?_
            (try simp only [Act.put, List.setIfInBounds_toArray, List.set_cons_zero, List.set_cons_succ])
            refine tk 31 ?_
            (try simp only [Act.put, List.setIfInBounds_toArray, List.set_cons_zero, List.set_cons_succ])
            refine tk 32 ?_
            (try simp only [Act.put, List.setIfInBounds_toArray, List.set_cons_zero, List.set_cons_succ])
            refine tk 33 ?_
            (try simp only [Act.put, List.setIfInBounds_toArray, List.set_cons_zero, List.set_cons_succ])
            refine tk 34 ?_
            (try simp only [Act.put, List.setIfInBounds_toArray, List.set_cons_zero, List.set_cons_succ])
            refine tk 35 ?_
            (try simp only [Act.put, List.setIfInBounds_toArray, List.set_cons_zero, List.set_cons_succ])
            refine tk 36 ?_
            (try simp only [Act.put, List.setIfInBounds_toArray, List.set_cons_zero, List.set_cons_succ])
            refine tk 37 ?_
            (try simp only [Act.put, List.setIfInBounds_toArray, List.set_cons_zero, List.set_cons_succ])
            refine tk 38 ?_ (hy := by first | (refine' yields_cell (v := .int .i64 x.ver) ?ta 3 _ ?tb ?tc ?td _ ?te ?tf; (case ta => rfl); (case tb => rfl); (case tc => rfl); (case td => exact fun W hW => (G1.out.fr hW.frame).at_ 6 _ rfl); (case te => exact Try.underlying3); (case tf => rfl)) | (refine Or.inr ⟨by rfl, ?_⟩; rfl))
            (try simp only [Act.put, List.setIfInBounds_toArray, List.set_cons_zero, List.set_cons_succ])
            refine tk 39 ?_
            (try simp only [Act.put, List.setIfInBounds_toArray, List.set_cons_zero, List.set_cons_succ])
            refine tk 40 ?_
            (try simp only [Act.put, List.setIfInBounds_toArray, List.set_cons_zero, List.set_cons_succ])
            refine tk 41 ?_
            (try simp only [Act.put, List.setIfInBounds_toArray, List.set_cons_zero, List.set_cons_succ])
            refine tk 42 ?_
            (try simp only [Act.put, List.setIfInBounds_toArray, List.set_cons_zero, List.set_cons_succ])
            refine wpAnyH_done (by kernel_rfl) ?_ _
            refine NoPanic.normal ?_
            go_wp2
            go_ret
            exact ⟨by rw [R.out]; rfl, S.frame⟩
        have tv : decide (s.vsn < x.ver) = false := decide_eq_false (by omega)
        have R := Lib.hid (range_all_succ HA.out (by rw [HAT.out]; simp [pkAtOk, O1.out, hq, hv, hlb]))
        clear hq hv
        cases l with
        | false =>
          clear hlb
          go_wp2
          have S0 := (Sep.only1 (a1 := aBox gS _ _ _) S delA)
          refine wp_region_noPanic ?_
          refine wp_region_held_drew (S := Sep _ _ _) (by kernel_rfl) S0.drew (fun _ => ?_)
          replace S := S.drew
          clear S0
          refine tk 0 ?_
          (try simp only [Act.put, List.setIfInBounds_toArray, List.set_cons_zero, List.set_cons_succ])
          refine tk 1 ?_
          (try simp only [Act.put, List.setIfInBounds_toArray, List.set_cons_zero, List.set_cons_succ])
          refine tk 2 ?_
          (try simp only [Act.put, List.setIfInBounds_toArray, List.set_cons_zero, List.set_cons_succ])
          refine tk 3 ?_
          (try simp only [Act.put, List.setIfInBounds_toArray, List.set_cons_zero, List.set_cons_succ])
          refine tk 4 ?_ (hy := by first | (refine' yields_pkld (p := x) ?ta 88 _ ?tb ?tc ?td _ ?te ?tf ?tg; (case ta => rfl); (case tb => rfl); (case tc => rfl); (case td => exact fun W hW => G1.out.fr hW.frame); (case te => exact Try.underlying88); (case tf => rfl); (case tg => exact ts88)))
          (try simp only [Act.put, List.setIfInBounds_toArray, List.set_cons_zero, List.set_cons_succ])
          refine rdy1 5 (fun K hK => ?_)
          go_simp; (skip; go_at_call 116; (with_reducible refine (sPacketOk_l _ x).mono ?_); rintro e w9 ⟨rfl, f9⟩; rw [O1.out]; replace S := S.fr f9; clear f9)
          (first | refine hK.out _ _ (S.sub subA) (fun _ => ?_) | (go_wp2_with fail; refine hK.out _ _ (S.sub subA) (fun _ => ?_)))
          clear hK K
          (try simp only [Act.put, List.setIfInBounds_toArray, List.set_cons_zero, List.set_cons_succ])
          refine tk 6 ?_
          (try simp only [Act.put, List.setIfInBounds_toArray, List.set_cons_zero, List.set_cons_succ])
          refine tk 7 ?_
          (try simp only [Act.put, List.setIfInBounds_toArray, List.set_cons_zero, List.set_cons_succ])
          refine tk 8 ?_
          (try simp only [Act.put, List.setIfInBounds_toArray, List.set_cons_zero, List.set_cons_succ])
          refine tk 9 ?_
          (try simp only [Act.put, List.setIfInBounds_toArray, List.set_cons_zero, List.set_cons_succ])
          refine tk 10 ?_
          (try simp only [Act.put, List.setIfInBounds_toArray, List.set_cons_zero, List.set_cons_succ])
          refine tk 11 ?_
          (try simp only [Act.put, List.setIfInBounds_toArray, List.set_cons_zero, List.set_cons_succ])
          refine tk 12 ?_
          (try simp only [Act.put, List.setIfInBounds_toArray, List.set_cons_zero, List.set_cons_succ])
          refine tk 13 ?_ (hy := by first | (refine' yields_cell (v := .int .i64 x.seq) ?ta 3 _ ?tb ?tc ?td _ ?te ?tf; (case ta => rfl); (case tb => rfl); (case tc => rfl); (case td => exact fun W hW => (G1.out.fr hW.frame).at_ 0 _ rfl); (case te => exact Try.underlying3); (case tf => rfl)) | (refine Or.inr ⟨by rfl, ?_⟩; rfl))
          (try simp only [Act.put, List.setIfInBounds_toArray, List.set_cons_zero, List.set_cons_succ])
          refine tk 14 ?_
          (try simp only [Act.put, List.setIfInBounds_toArray, List.set_cons_zero, List.set_cons_succ])
          refine tk 15 ?_
          (try simp only [Act.put, List.setIfInBounds_toArray, List.set_cons_zero, List.set_cons_succ])
          refine tk 16 ?_
          (try simp only [Act.put, List.setIfInBounds_toArray, List.set_cons_zero, List.set_cons_succ])
          refine tk 17 ?_
          (try simp only [Act.put, List.setIfInBounds_toArray, List.set_cons_zero, List.set_cons_succ])
          refine tk 18 ?_
          (try simp only [Act.put, List.setIfInBounds_toArray, List.set_cons_zero, List.set_cons_succ])
          refine tk 19 ?_
          (try simp only [Act.put, List.setIfInBounds_toArray, List.set_cons_zero, List.set_cons_succ])
          refine tk 20 ?_
          (try simp only [Act.put, List.setIfInBounds_toArray, List.set_cons_zero, List.set_cons_succ])
          refine tk 21 ?_
          (try simp only [Act.put, List.setIfInBounds_toArray, List.set_cons_zero, List.set_cons_succ])
          refine tk 22 ?_
          (try simp only [Act.put, List.setIfInBounds_toArray, List.set_cons_zero, List.set_cons_succ])
          refine tk 23 ?_ (hy := by first | (refine' yields_cell (v := .bool true) ?ta 4 _ ?tb ?tc ?td _ ?te ?tf; (case ta => rfl); (case tb => rfl); (case tc => rfl); (case td => exact fun W hW => hW.frame.cell G2.out); (case te => exact Try.underlying4); (case tf => rfl)) | (refine' yields_cell (v := .bool false) ?ta 4 _ ?tb ?tc ?td _ ?te ?tf; (case ta => rfl); (case tb => rfl); (case tc => rfl); (case td => exact fun W hW => hW.frame.cell G2.out); (case te => exact Try.underlying4); (case tf => rfl)) | (refine' yields_cell (v := .bool l) ?ta 4 _ ?tb ?tc ?td _ ?te ?tf; (case ta => rfl); (case tb => rfl); (case tc => rfl); (case td => exact fun W hW => hW.frame.cell G2.out); (case te => exact Try.underlying4); (case tf => rfl)) | (refine Or.inr ⟨by rfl, ?_⟩; rfl))
          (try simp only [Act.put, List.setIfInBounds_toArray, List.set_cons_zero, List.set_cons_succ])
          refine tk 24 ?_
          (try simp only [Act.put, List.setIfInBounds_toArray, List.set_cons_zero, List.set_cons_succ])
          refine tk 25 ?_
          (try simp only [Act.put, List.setIfInBounds_toArray, List.set_cons_zero, List.set_cons_succ])
          refine tk 26 ?_
          (try simp only [Act.put, List.setIfInBounds_toArray, List.set_cons_zero, List.set_cons_succ])
          refine tk 27 ?_
          (try simp only [Act.put, List.setIfInBounds_toArray, List.set_cons_zero, List.set_cons_succ])
          refine tk 28 ?_
          (try simp only [Act.put, List.setIfInBounds_toArray, List.set_cons_zero, List.set_cons_succ])
          refine tk 29 ?_ (hy := by first | (refine' yields_cell (v := .bool true) ?ta 4 _ ?tb ?tc ?td _ ?te ?tf; (case ta => rfl); (case tb => rfl); (case tc => rfl); (case td => exact fun W hW => hW.frame.cell G3.out); (case te => exact Try.underlying4); (case tf => rfl)) | (refine' yields_cell (v := .bool false) ?ta 4 _ ?tb ?tc ?td _ ?te ?tf; (case ta => rfl); (case tb => rfl); (case tc => rfl); (case td => exact fun W hW => hW.frame.cell G3.out); (case te => exact Try.underlying4); (case tf => rfl)) | (refine' yields_cell (v := .bool b) ?ta 4 _ ?tb ?tc ?td _ ?te ?tf; (case ta => rfl); (case tb => rfl); (case tc => rfl); (case td => exact fun W hW => hW.frame.cell G3.out); (case te => exact Try.underlying4); (case tf => rfl)) | (refine Or.inr ⟨by rfl, ?_⟩; rfl))
          (try simp only [Act.put, List.setIfInBounds_toArray, List.set_cons_zero, List.set_cons_succ])
          refine tk 30 ?_
          (try simp only [Act.put, List.setIfInBounds_toArray, List.set_cons_zero, List.set_cons_succ])
          refine tk 31 ?_
          (try simp only [Act.put, List.setIfInBounds_toArray, List.set_cons_zero, List.set_cons_succ])
          refine tk 32 ?_
          (try simp only [Act.put, List.setIfInBounds_toArray, List.set_cons_zero, List.set_cons_succ])
          refine tk 33 ?_
          (try simp only [Act.put, List.setIfInBounds_toArray, List.set_cons_zero, List.set_cons_succ])
          refine tk 34 ?_
          (try simp only [Act.put, List.setIfInBounds_toArray, List.set_cons_zero, List.set_cons_succ])
          refine tk 35 ?_
          (try simp only [Act.put, List.setIfInBounds_toArray, List.set_cons_zero, List.set_cons_succ])
          refine tk 36 ?_
          (try simp only [Act.put, List.setIfInBounds_toArray, List.set_cons_zero, List.set_cons_succ])
          refine tk 37 ?_
          (try simp only [Act.put, List.setIfInBounds_toArray, List.set_cons_zero, List.set_cons_succ])
          refine tk 38 ?_ (hy := by first | (refine' yields_cell (v := .int .i64 x.ver) ?ta 3 _ ?tb ?tc ?td _ ?te ?tf; (case ta => rfl); (case tb => rfl); (case tc => rfl); (case td => exact fun W hW => (G1.out.fr hW.frame).at_ 6 _ rfl); (case te => exact Try.underlying3); (case tf => rfl)) | (refine Or.inr ⟨by rfl, ?_⟩; rfl))
          (try simp only [Act.put, List.setIfInBounds_toArray, List.set_cons_zero, List.set_cons_succ])
          refine tk 39 ?_
          (try simp only [Act.put, List.setIfInBounds_toArray, List.set_cons_zero, List.set_cons_succ])
          refine tk 40 ?_
          (try simp only [Act.put, List.setIfInBounds_toArray, List.set_cons_zero, List.set_cons_succ])
          refine tk 41 ?_
          (try simp only [Act.put, List.setIfInBounds_toArray, List.set_cons_zero, List.set_cons_succ])
          refine tk 42 ?_
          (try simp only [Act.put, List.setIfInBounds_toArray, List.set_cons_zero, List.set_cons_succ])
          refine wpAnyH_done (by kernel_rfl) ?_ _
          refine NoPanic.normal ?_
          go_wp2
          go_roundw
          case rel => exact ⟨k + 1, by omega, by go_num, R.out, (Sep.only1 (a1 := aBox gS _ _ _) S delA)⟩
          case measure => simp [intOf]; omega
        | true =>
          simp only [Bool.true_and] at hlb
          subst hlb
          go_wp2
          have S0 := (Sep.only1 (a1 := aBox gS _ _ _) S delA)
          refine wp_region_noPanic ?_
          refine wp_region_held_drew (S := Sep _ _ _) (by kernel_rfl) S0.drew (fun _ => ?_)
          replace S := S.drew
          clear S0
          refine tk 0 ?_
          (try simp only [Act.put, List.setIfInBounds_toArray, List.set_cons_zero, List.set_cons_succ])
          refine tk 1 ?_
          (try simp only [Act.put, List.setIfInBounds_toArray, List.set_cons_zero, List.set_cons_succ])
          refine tk 2 ?_
          (try simp only [Act.put, List.setIfInBounds_toArray, List.set_cons_zero, List.set_cons_succ])
          refine tk 3 ?_
          (try simp only [Act.put, List.setIfInBounds_toArray, List.set_cons_zero, List.set_cons_succ])
          refine tk 4 ?_ (hy := by first | (refine' yields_pkld (p := x) ?ta 88 _ ?tb ?tc ?td _ ?te ?tf ?tg; (case ta => rfl); (case tb => rfl); (case tc => rfl); (case td => exact fun W hW => G1.out.fr hW.frame); (case te => exact Try.underlying88); (case tf => rfl); (case tg => exact ts88)))
          (try simp only [Act.put, List.setIfInBounds_toArray, List.set_cons_zero, List.set_cons_succ])
          refine rdy1 5 (fun K hK => ?_)
          go_simp; (skip; go_at_call 116; (with_reducible refine (sPacketOk_l _ x).mono ?_); rintro e w9 ⟨rfl, f9⟩; rw [O1.out]; replace S := S.fr f9; clear f9)
          (first | refine hK.out _ _ (S.sub subA) (fun _ => ?_) | (go_wp2_with fail; refine hK.out _ _ (S.sub subA) (fun _ => ?_)))
          clear hK K
          (try simp only [Act.put, List.setIfInBounds_toArray, List.set_cons_zero, List.set_cons_succ])
          refine tk 6 ?_
          (try simp only [Act.put, List.setIfInBounds_toArray, List.set_cons_zero, List.set_cons_succ])
          refine tk 7 ?_
          (try simp only [Act.put, List.setIfInBounds_toArray, List.set_cons_zero, List.set_cons_succ])
          refine tk 8 ?_
          (try simp only [Act.put, List.setIfInBounds_toArray, List.set_cons_zero, List.set_cons_succ])
          refine tk 9 ?_
          (try simp only [Act.put, List.setIfInBounds_toArray, List.set_cons_zero, List.set_cons_succ])
          refine tk 10 ?_
          (try simp only [Act.put, List.setIfInBounds_toArray, List.set_cons_zero, List.set_cons_succ])
          refine tk 11 ?_
          (try simp only [Act.put, List.setIfInBounds_toArray, List.set_cons_zero, List.set_cons_succ])
          refine tk 12 ?_
          (try simp only [Act.put, List.setIfInBounds_toArray, List.set_cons_zero, List.set_cons_succ])
          refine tk 13 ?_ (hy := by first | (refine' yields_cell (v := .int .i64 x.seq) ?ta 3 _ ?tb ?tc ?td _ ?te ?tf; (case ta => rfl); (case tb => rfl); (case tc => rfl); (case td => exact fun W hW => (G1.out.fr hW.frame).at_ 0 _ rfl); (case te => exact Try.underlying3); (case tf => rfl)) | (refine Or.inr ⟨by rfl, ?_⟩; rfl))
          (try simp only [Act.put, List.setIfInBounds_toArray, List.set_cons_zero, List.set_cons_succ])
          refine tk 14 ?_
          (try simp only [Act.put, List.setIfInBounds_toArray, List.set_cons_zero, List.set_cons_succ])
          refine tk 15 ?_
          (try simp only [Act.put, List.setIfInBounds_toArray, List.set_cons_zero, List.set_cons_succ])
          refine tk 16 ?_
          (try simp only [Act.put, List.setIfInBounds_toArray, List.set_cons_zero, List.set_cons_succ])
          refine tk 17 ?_
          (try simp only [Act.put, List.setIfInBounds_toArray, List.set_cons_zero, List.set_cons_succ])
          refine tk 18 ?_
          (try simp only [Act.put, List.setIfInBounds_toArray, List.set_cons_zero, List.set_cons_succ])
          refine tk 19 ?_
          (try simp only [Act.put, List.setIfInBounds_toArray, List.set_cons_zero, List.set_cons_succ])
          refine tk 20 ?_
          (try simp only [Act.put, List.setIfInBounds_toArray, List.set_cons_zero, List.set_cons_succ])
          refine tk 21 ?_
          (try simp only [Act.put, List.setIfInBounds_toArray, List.set_cons_zero, List.set_cons_succ])
          refine tk 22 ?_
          (try simp only [Act.put, List.setIfInBounds_toArray, List.set_cons_zero, List.set_cons_succ])
          refine tk 23 ?_ (hy := by first | (refine' yields_cell (v := .bool true) ?ta 4 _ ?tb ?tc ?td _ ?te ?tf; (case ta => rfl); (case tb => rfl); (case tc => rfl); (case td => exact fun W hW => hW.frame.cell G2.out); (case te => exact Try.underlying4); (case tf => rfl)) | (refine' yields_cell (v := .bool false) ?ta 4 _ ?tb ?tc ?td _ ?te ?tf; (case ta => rfl); (case tb => rfl); (case tc => rfl); (case td => exact fun W hW => hW.frame.cell G2.out); (case te => exact Try.underlying4); (case tf => rfl)) | (refine' yields_cell (v := .bool l) ?ta 4 _ ?tb ?tc ?td _ ?te ?tf; (case ta => rfl); (case tb => rfl); (case tc => rfl); (case td => exact fun W hW => hW.frame.cell G2.out); (case te => exact Try.underlying4); (case tf => rfl)) | (refine Or.inr ⟨by rfl, ?_⟩; rfl))
          (try simp only [Act.put, List.setIfInBounds_toArray, List.set_cons_zero, List.set_cons_succ])
          refine tk 24 ?_
          (try simp only [Act.put, List.setIfInBounds_toArray, List.set_cons_zero, List.set_cons_succ])
          refine tk 25 ?_
          (try simp only [Act.put, List.setIfInBounds_toArray, List.set_cons_zero, List.set_cons_succ])
          refine tk 26 ?_
          (try simp only [Act.put, List.setIfInBounds_toArray, List.set_cons_zero, List.set_cons_succ])
          refine tk 27 ?_
          (try simp only [Act.put, List.setIfInBounds_toArray, List.set_cons_zero, List.set_cons_succ])
          refine tk 28 ?_
          (try simp only [Act.put, List.setIfInBounds_toArray, List.set_cons_zero, List.set_cons_succ])
          refine tk 29 ?_ (hy := by first | (refine' yields_cell (v := .bool true) ?ta 4 _ ?tb ?tc ?td _ ?te ?tf; (case ta => rfl); (case tb => rfl); (case tc => rfl); (case td => exact fun W hW => hW.frame.cell G3.out); (case te => exact Try.underlying4); (case tf => rfl)) | (refine' yields_cell (v := .bool false) ?ta 4 _ ?tb ?tc ?td _ ?te ?tf; (case ta => rfl); (case tb => rfl); (case tc => rfl); (case td => exact fun W hW => hW.frame.cell G3.out); (case te => exact Try.underlying4); (case tf => rfl)) | (refine' yields_cell (v := .bool b) ?ta 4 _ ?tb ?tc ?td _ ?te ?tf; (case ta => rfl); (case tb => rfl); (case tc => rfl); (case td => exact fun W hW => hW.frame.cell G3.out); (case te => exact Try.underlying4); (case tf => rfl)) | (refine Or.inr ⟨by rfl, ?_⟩; rfl))
          (try simp only [Act.put, List.setIfInBounds_toArray, List.set_cons_zero, List.set_cons_succ])
          refine tk 30 ?_
          (try simp only [Act.put, List.setIfInBounds_toArray, List.set_cons_zero, List.set_cons_succ])
          refine tk 31 ?_
          (try simp only [Act.put, List.setIfInBounds_toArray, List.set_cons_zero, List.set_cons_succ])
          refine tk 32 ?_
          (try simp only [Act.put, List.setIfInBounds_toArray, List.set_cons_zero, List.set_cons_succ])
          refine tk 33 ?_
          (try simp only [Act.put, List.setIfInBounds_toArray, List.set_cons_zero, List.set_cons_succ])
          refine tk 34 ?_
          (try simp only [Act.put, List.setIfInBounds_toArray, List.set_cons_zero, List.set_cons_succ])
          refine tk 35 ?_
          (try simp only [Act.put, List.setIfInBounds_toArray, List.set_cons_zero, List.set_cons_succ])
          refine tk 36 ?_
          (try simp only [Act.put, List.setIfInBounds_toArray, List.set_cons_zero, List.set_cons_succ])
          refine tk 37 ?_
          (try simp only [Act.put, List.setIfInBounds_toArray, List.set_cons_zero, List.set_cons_succ])
          refine tk 38 ?_ (hy := by first | (refine' yields_cell (v := .int .i64 x.ver) ?ta 3 _ ?tb ?tc ?td _ ?te ?tf; (case ta => rfl); (case tb => rfl); (case tc => rfl); (case td => exact fun W hW => (G1.out.fr hW.frame).at_ 6 _ rfl); (case te => exact Try.underlying3); (case tf => rfl)) | (refine Or.inr ⟨by rfl, ?_⟩; rfl))
          (try simp only [Act.put, List.setIfInBounds_toArray, List.set_cons_zero, List.set_cons_succ])
          refine tk 39 ?_
          (try simp only [Act.put, List.setIfInBounds_toArray, List.set_cons_zero, List.set_cons_succ])
          refine tk 40 ?_
          (try simp only [Act.put, List.setIfInBounds_toArray, List.set_cons_zero, List.set_cons_succ])
          refine tk 41 ?_
          (try simp only [Act.put, List.setIfInBounds_toArray, List.set_cons_zero, List.set_cons_succ])
          refine tk 42 ?_
          (try simp only [Act.put, List.setIfInBounds_toArray, List.set_cons_zero, List.set_cons_succ])
          refine wpAnyH_done (by kernel_rfl) ?_ _
          refine NoPanic.normal ?_
          go_wp2
          go_roundw
          case rel => exact ⟨k + 1, by omega, by go_num, R.out, (Sep.only1 (a1 := aBox gS _ _ _) S delA)⟩
          case measure => simp [intOf]; omega
    · obtain rfl : n = k := by omega
      have R := Lib.hid (show okSt s = (wantOk s && gotOk s.got) by rw [R0.out, SO.out, HA.out, Bool.and_true])
      clear HA
      have pv : 1 ≤ s.vsn ∧ s.vsn ≤ 9 := of_decide_eq_true W2.out
      have pw : IntKind.i64.wrap (s.vsn + 1) = s.vsn + 1 := IntWalk.i64_in _ (by omega)
      clear pv
      go_wp2_with (first | ((with_reducible refine gate_box rfl ?_); refine aBx S ?_; clear S; intro g9 w9 z9 S) | ((with_reducible refine gate_load rfl ?_); first | refine aLd S ?_ | refine aPt S ?_ | refine aL1 S ?_))
      go_loopw [5] (fun i wr => ∃ k : Nat, k ≤ 8 ∧ i = .int .i64 k ∧ (s.got.take k).all rng2 = true ∧ Sep [] w [aBox gS 30 7 [.int .i64 s.way, .int .i64 s.vsn, .int .i64 s.want, .slice A1 n c1, .slice A2 n c2, .slice A3 n c3, .slice A4 8 c4]] wr) (fun i _ => 8 - (intOf i).toNat)
      case atStart => exact ⟨0, Nat.zero_le _, rfl, rfl, S⟩
      case round =>
        clear S
        obtain ⟨k, hk8, rfl, hall, S⟩ := hrel
        have HA := Lib.hid hall
        clear hall
        by_cases hlt8 : k < 8
        · have hin : k < s.got.length := by rw [E4.out]; exact hlt8
          obtain ⟨ad4, rfl, g4⟩ := row_int_at h14 k hin
          have HIN := Lib.hid hin
          have G4 := Lib.hid g4
          clear g4
          have p1 : (k : Int) < 8 := by omega
          cases o1 : rng2 (s.got[k]'HIN.out) with
          | false =>
            have R2 := Lib.hid (show okSt s = false by rw [R.out, gotOk_bad HIN.out o1]; simp)
            have O1 := Lib.hid (show decide (0 ≤ s.got[k]'HIN.out ∧ s.got[k]'HIN.out ≤ 2) = false from o1)
            clear o1
            go_wp2_with (first
              | ((with_reducible refine gate_dst (N := 102) rfl ?_); refine wpList_rowint (by rfl) 3 _ rfl rfl (S.frame.cell G4.out) _ Try.underlying3 rfl ?_)
              | (go_at_call 61; (with_reducible refine (l6In_e _ _ 0 2 O1.out).mono ?_); rintro e w9 ⟨rfl, rfl⟩)
              | ((with_reducible refine gate_box rfl ?_); refine aBx S ?_; clear S; intro g9 w9 z9 S) | ((with_reducible refine gate_load rfl ?_); first | refine aLd S ?_ | refine aPt S ?_ | refine aL1 S ?_))
            go_ret
            exact ⟨by rw [R2.out]; rfl, S.frame⟩
          | true =>
            have R2 := Lib.hid (allr_succ HIN.out HA.out o1)
            have O1 := Lib.hid (show decide (0 ≤ s.got[k]'HIN.out ∧ s.got[k]'HIN.out ≤ 2) = true from o1)
            clear o1
            go_wp2_with (first
              | ((with_reducible refine gate_dst (N := 102) rfl ?_); refine wpList_rowint (by rfl) 3 _ rfl rfl (S.frame.cell G4.out) _ Try.underlying3 rfl ?_)
              | (go_at_call 61; (with_reducible refine (l6In_e _ _ 0 2 O1.out).mono ?_); rintro e w9 ⟨rfl, rfl⟩)
              | ((with_reducible refine gate_box rfl ?_); refine aBx S ?_; clear S; intro g9 w9 z9 S) | ((with_reducible refine gate_load rfl ?_); first | refine aLd S ?_ | refine aPt S ?_ | refine aL1 S ?_))
            go_roundw
            case rel => exact ⟨k + 1, by omega, by go_num, R2.out, S⟩
            case measure => simp [intOf]; omega
        · obtain rfl : k = 8 := by omega
          have R2 := Lib.hid (show okSt s = wantOk s by rw [R.out, GO.out]; have h := HA.out; rw [List.take_of_length_le (by rw [E4.out]; omega)] at h; rw [h, Bool.and_true])
          clear HA
          by_cases ew : s.way = 4
          · have tw : (s.way == 4) = true := by simpa using ew
            by_cases e5 : s.want = s.vsn + 1
            · have t5 : (s.want == s.vsn + 1) = true := by simpa using e5
              cases e6 : decide (s.want ≤ 9) with
              | true =>
                have R3 := Lib.hid (show okSt s = true by rw [R2.out]; unfold wantOk; rw [if_pos ew, decide_eq_true e5, e6]; rfl)
                clear ew e5
                go_wp2_with (first | ((with_reducible refine gate_box rfl ?_); refine aBx S ?_; clear S; intro g9 w9 z9 S) | ((with_reducible refine gate_load rfl ?_); first | refine aLd S ?_ | refine aPt S ?_ | refine aL1 S ?_))
                go_ret
                exact ⟨by rw [R3.out]; rfl, S.frame⟩
              | false =>
                have R3 := Lib.hid (show okSt s = false by rw [R2.out]; unfold wantOk; rw [if_pos ew, decide_eq_true e5, e6]; rfl)
                clear ew e5
                go_wp2_with (first | ((with_reducible refine gate_box rfl ?_); refine aBx S ?_; clear S; intro g9 w9 z9 S) | ((with_reducible refine gate_load rfl ?_); first | refine aLd S ?_ | refine aPt S ?_ | refine aL1 S ?_))
                go_ret
                exact ⟨by rw [R3.out]; rfl, S.frame⟩
            · have t5 : (s.want == s.vsn + 1) = false := by simpa using e5
              have R3 := Lib.hid (show okSt s = false by rw [R2.out]; unfold wantOk; rw [if_pos ew, decide_eq_false e5]; rfl)
              clear ew e5
              go_wp2_with (first | ((with_reducible refine gate_box rfl ?_); refine aBx S ?_; clear S; intro g9 w9 z9 S) | ((with_reducible refine gate_load rfl ?_); first | refine aLd S ?_ | refine aPt S ?_ | refine aL1 S ?_))
              go_ret
              exact ⟨by rw [R3.out]; rfl, S.frame⟩
          · have tw : (s.way == 4) = false := by simpa using ew
            have R3 := Lib.hid (show okSt s = (s.want == 0) by rw [R2.out]; unfold wantOk; rw [if_neg ew])
            clear ew
            go_wp2_with (first | ((with_reducible refine gate_box rfl ?_); refine aBx S ?_; clear S; intro g9 w9 z9 S) | ((with_reducible refine gate_load rfl ?_); first | refine aLd S ?_ | refine aPt S ?_ | refine aL1 S ?_))
            go_ret
            exact ⟨by rw [R3.out]; rfl, S.frame⟩
end Go.Proofs.Ytapdcgjccckjeaa
namespace Go.Proofs.Ytapdcgjccckjeaa
set_option maxRecDepth 100000
set_option linter.unusedVariables false
set_option linter.unusedSimpArgs false
open Go.RowKit
theorem okSt_len {s : St} (h : okSt s = true) : s.sent.length ≤ 8 ∧ s.live.length = s.sent.length ∧ s.back.length = s.sent.length ∧ s.got.length = 8 := by
  simp only [okSt, sentOk, gotOk, Bool.and_eq_true, decide_eq_true_eq, beq_iff_eq] at h
  exact ⟨h.1.2.1.1.1, h.1.2.1.1.2, h.1.2.1.2, h.2.1⟩
theorem okSt_got {s : St} (h : okSt s = true) (k : Nat) (hk : k < s.got.length) : 0 ≤ s.got[k] ∧ s.got[k] ≤ 2 := by
  simp only [okSt, gotOk, Bool.and_eq_true, List.all_eq_true] at h
  exact of_decide_eq_true (h.2.2 _ (List.getElem_mem hk))
def settled (s : St) (n : Int) : Int := if okSt s = true ∧ 1 ≤ n ∧ n ≤ s.sent.length then (if s.live.getD (n - 1).toNat false = true then 1 else if s.back.getD (n - 1).toNat false = true then 3 else 2) else 0
def gotV (s : St) (n : Int) : Int := if okSt s = true ∧ 1 ≤ n ∧ n ≤ 8 then s.got.getD (n - 1).toNat 0 else 0
theorem sStateOk_r (w : World) (s : St) (c0 : List Value) (h1 : tSt.rd w s c0) {r : Bool} (h : okSt s = r) : Calls Try.prog 88 #[.agg c0.toArray] w (Ret (.bool r) w) := h ▸ sStateOk_c w s c0 h1
theorem StateOk_r (w : World) (s : St) (c0 : List Value) (h1 : tSt.rd w s c0) {r : Bool} (h : okSt s = r) : Calls Try.prog 68 #[.agg c0.toArray] w (Ret (.bool r) w) := h ▸ StateOk_c w s c0 h1
set_option maxHeartbeats 1600000 in
theorem StateSettled_c (w : World) (s : St) (c0 : List Value) (h1 : tSt.rd w s c0) (n : Int) : Calls Try.prog 152 #[.agg c0.toArray, .int .i64 n] w (Ret (.int .i64 (settled s n)) w) := by
  have Q := Lib.hid h1
  obtain ⟨v1, v2, v3, v4, rfl, h11, h12, h13, h14, h15⟩ := h1
  obtain ⟨A1, c1, rfl⟩ := h11.val
  obtain ⟨A2, c2, rfl⟩ := h12.val
  obtain ⟨A3, c3, rfl⟩ := h13.val
  obtain ⟨A4, c4, rfl⟩ := h14.val
  have FIN := Lib.hid (fun (W : World) (f : Fr w W) => tSt.fr f Q.out)
  have S := Sep.start w
  clear h15
  cases o1 : okSt s with
  | false =>
    have r := Lib.hid (show settled s n = 0 by unfold settled; rw [if_neg]; rintro ⟨h, _⟩; rw [o1] at h; cases h)
    have O1 := Lib.hid o1
    clear o1
    go_enter Try.func152, Try.ntmps152
    go_wp2_with (first
      | (go_at_call 68; (with_reducible refine (StateOk_r _ s _ (FIN.out _ S.frame) O1.out).mono ?_); rintro e w9 ⟨rfl, f9⟩; replace S := S.fr f9; clear f9)
      | ((with_reducible refine gate_box rfl ?_); refine aBx S ?_; clear S; intro g9 w9 z9 S) | ((with_reducible refine gate_load rfl ?_); first | refine aLd S ?_ | refine aPt S ?_ | refine aL1 S ?_))
    go_ret
    exact ⟨by rw [r.out]; rfl, S.frame⟩
  | true =>
  have LN := Lib.hid (okSt_len o1)
  by_cases hn : 1 ≤ n ∧ n ≤ s.sent.length
  case neg =>
    have r := Lib.hid (show settled s n = 0 by unfold settled; rw [if_neg]; rintro ⟨_, h⟩; exact hn h)
    have O1 := Lib.hid o1
    clear o1
    by_cases n1 : n < 1
    · have t1 : decide (n < 1) = true := decide_eq_true n1
      clear hn n1
      go_enter Try.func152, Try.ntmps152
      go_wp2_with (first
      | (go_at_call 68; (with_reducible refine (StateOk_r _ s _ (FIN.out _ S.frame) O1.out).mono ?_); rintro e w9 ⟨rfl, f9⟩; replace S := S.fr f9; clear f9)
      | ((with_reducible refine gate_box rfl ?_); refine aBx S ?_; clear S; intro g9 w9 z9 S) | ((with_reducible refine gate_load rfl ?_); first | refine aLd S ?_ | refine aPt S ?_ | refine aL1 S ?_))
      go_ret
      exact ⟨by rw [r.out]; rfl, S.frame⟩
    · have t1 : decide (n < 1) = false := decide_eq_false n1
      have t2 : decide ((s.sent.length : Int) < n) = true := decide_eq_true (by omega)
      clear hn n1
      go_enter Try.func152, Try.ntmps152
      go_wp2_with (first
      | (go_at_call 68; (with_reducible refine (StateOk_r _ s _ (FIN.out _ S.frame) O1.out).mono ?_); rintro e w9 ⟨rfl, f9⟩; replace S := S.fr f9; clear f9)
      | ((with_reducible refine gate_box rfl ?_); refine aBx S ?_; clear S; intro g9 w9 z9 S) | ((with_reducible refine gate_load rfl ?_); first | refine aLd S ?_ | refine aPt S ?_ | refine aL1 S ?_))
      go_ret
      exact ⟨by rw [r.out]; rfl, S.frame⟩
  obtain ⟨k, rfl⟩ : ∃ k : Nat, n = (k : Int) + 1 := ⟨(n - 1).toNat, by omega⟩
  have hk : k < s.sent.length := by omega
  have k2 : k < s.live.length := by rw [LN.out.2.1]; exact hk
  have k3 : k < s.back.length := by rw [LN.out.2.2.1]; exact hk
  obtain ⟨ad2, rfl, g2⟩ := row_bool_at h12 k k2
  obtain ⟨ad3, rfl, g3⟩ := row_bool_at h13 k k3
  have hs : settled s ((k : Int) + 1) = if s.live[k]'k2 = true then 1 else if s.back[k]'k3 = true then 3 else 2 := by
    unfold settled
    rw [if_pos ⟨o1, by omega, by omega⟩, show ((k : Int) + 1 - 1).toNat = k by omega]
    simp [k2, k3]
  have e2 := LN.out.2.1
  have e3 := LN.out.2.2.1
  have m8 := LN.out.1
  obtain ⟨L, hL⟩ : ∃ L, s.sent.length = L := ⟨_, rfl⟩
  have FN := Lib.hid (fun (W : World) (f : Fr w W) => FIN.out W f)
  rw [e2, e3, hL] at FN ⊢
  generalize s.live[k]'k2 = l at *
  generalize s.back[k]'k3 = b at *
  have pw : IntKind.i64.wrap ((k : Int) + 1 - 1) = k := by rw [show (k : Int) + 1 - 1 = k by omega]; exact IntWalk.i64_in _ (by omega)
  have pw2 : IntKind.i64.wrap (k : Int) = k := IntWalk.i64_in _ (by omega)
  have HS := Lib.hid hs
  have G2 := Lib.hid g2
  have G3 := Lib.hid g3
  have O1 := Lib.hid o1
  have p1 : (k : Int) < L := by omega
  have t1 : decide ((k : Int) + 1 < 1) = false := decide_eq_false (by omega)
  have t2 : decide ((L : Int) < (k : Int) + 1) = false := decide_eq_false (by omega)
  have k4 : k < L := by omega
  clear hs g2 g3 o1 e2 e3 hn hk k2 k3 hL LN
  cases l with
  | true =>
    go_enter Try.func152, Try.ntmps152
    go_wp2_with (first
      | (go_at_call 68; (with_reducible refine (StateOk_r _ s _ (FN.out _ S.frame) O1.out).mono ?_); rintro e w9 ⟨rfl, f9⟩; replace S := S.fr f9; clear f9)
        | ((with_reducible refine gate_dst (N := 25) rfl ?_); refine wpList_rowint (by rfl) 4 _ rfl rfl (S.frame.cell G2.out) _ Try.underlying4 rfl ?_)
        | ((with_reducible refine gate_dst (N := 32) rfl ?_); refine wpList_rowint (by rfl) 4 _ rfl rfl (S.frame.cell G3.out) _ Try.underlying4 rfl ?_)
      | ((with_reducible refine gate_box rfl ?_); refine aBx S ?_; clear S; intro g9 w9 z9 S) | ((with_reducible refine gate_load rfl ?_); first | refine aLd S ?_ | refine aPt S ?_ | refine aL1 S ?_))
    go_ret
    exact ⟨by rw [HS.out]; rfl, S.frame⟩
  | false =>
    cases b with
    | true =>
      go_enter Try.func152, Try.ntmps152
      go_wp2_with (first
      | (go_at_call 68; (with_reducible refine (StateOk_r _ s _ (FN.out _ S.frame) O1.out).mono ?_); rintro e w9 ⟨rfl, f9⟩; replace S := S.fr f9; clear f9)
        | ((with_reducible refine gate_dst (N := 25) rfl ?_); refine wpList_rowint (by rfl) 4 _ rfl rfl (S.frame.cell G2.out) _ Try.underlying4 rfl ?_)
        | ((with_reducible refine gate_dst (N := 32) rfl ?_); refine wpList_rowint (by rfl) 4 _ rfl rfl (S.frame.cell G3.out) _ Try.underlying4 rfl ?_)
      | ((with_reducible refine gate_box rfl ?_); refine aBx S ?_; clear S; intro g9 w9 z9 S) | ((with_reducible refine gate_load rfl ?_); first | refine aLd S ?_ | refine aPt S ?_ | refine aL1 S ?_))
      go_ret
      exact ⟨by rw [HS.out]; rfl, S.frame⟩
    | false =>
      go_enter Try.func152, Try.ntmps152
      go_wp2_with (first
      | (go_at_call 68; (with_reducible refine (StateOk_r _ s _ (FN.out _ S.frame) O1.out).mono ?_); rintro e w9 ⟨rfl, f9⟩; replace S := S.fr f9; clear f9)
        | ((with_reducible refine gate_dst (N := 25) rfl ?_); refine wpList_rowint (by rfl) 4 _ rfl rfl (S.frame.cell G2.out) _ Try.underlying4 rfl ?_)
        | ((with_reducible refine gate_dst (N := 32) rfl ?_); refine wpList_rowint (by rfl) 4 _ rfl rfl (S.frame.cell G3.out) _ Try.underlying4 rfl ?_)
      | ((with_reducible refine gate_box rfl ?_); refine aBx S ?_; clear S; intro g9 w9 z9 S) | ((with_reducible refine gate_load rfl ?_); first | refine aLd S ?_ | refine aPt S ?_ | refine aL1 S ?_))
      go_ret
      exact ⟨by rw [HS.out]; rfl, S.frame⟩
set_option maxHeartbeats 1600000 in
theorem fateAt_c (w : World) (s : St) (c0 : List Value) (h1 : tSt.rd w s c0) (k : Nat) (hk : k < s.got.length) (h8 : s.got.length = 8) : Calls Try.prog 153 #[.agg c0.toArray, .int .i64 ((k : Int) + 1)] w (Ret (fateV s.got[k]) w) := by
  obtain ⟨v1, v2, v3, v4, rfl, h11, h12, h13, h14, h15⟩ := h1
  obtain ⟨A4, c4, rfl⟩ := h14.val
  obtain ⟨ad4, rfl, g4⟩ := row_int_at h14 k hk
  have S := Sep.start w
  rw [h8]
  have k8 : k < 8 := by omega
  have pw : IntKind.i64.wrap ((k : Int) + 1 - 1) = k := by rw [show (k : Int) + 1 - 1 = k by omega]; exact IntWalk.i64_in _ (by omega)
  have pw2 : IntKind.i64.wrap (k : Int) = k := IntWalk.i64_in _ (by omega)
  have p1 : (k : Int) < 8 := by omega
  have G4 := Lib.hid g4
  clear g4 h11 h12 h13 h14 h15
  go_enter Try.func153, Try.ntmps153
  go_wp2_with (first
    | ((with_reducible refine gate_dst (N := 13) rfl ?_); refine wpList_rowint (by rfl) 3 _ rfl rfl (S.frame.cell G4.out) _ Try.underlying3 rfl ?_)
    | (go_at_call 146; (with_reducible refine (fateOf_c _ _).mono ?_); rintro e w9 ⟨rfl, rfl⟩)
    | ((with_reducible refine gate_box rfl ?_); refine aBx S ?_; clear S; intro g9 w9 z9 S) | ((with_reducible refine gate_load rfl ?_); first | refine aLd S ?_ | refine aPt S ?_ | refine aL1 S ?_))
  go_ret
  exact ⟨rfl, S.frame⟩
set_option maxHeartbeats 1600000 in
theorem StateGot_c (w : World) (s : St) (c0 : List Value) (h1 : tSt.rd w s c0) (n : Int) : Calls Try.prog 139 #[.agg c0.toArray, .int .i64 n] w (Ret (.int .i64 (gotV s n)) w) := by
  have Q := Lib.hid h1
  obtain ⟨v1, v2, v3, v4, rfl, h11, h12, h13, h14, h15⟩ := h1
  obtain ⟨A4, c4, rfl⟩ := h14.val
  have FIN := Lib.hid (fun (W : World) (f : Fr w W) => tSt.fr f Q.out)
  have S := Sep.start w
  clear h11 h12 h13 h15
  by_cases hn : 1 ≤ n ∧ n ≤ 8
  case neg =>
    have r := Lib.hid (show gotV s n = 0 by unfold gotV; rw [if_neg]; rintro ⟨_, h⟩; exact hn h)
    cases o1 : okSt s with
    | false =>
      have O1 := Lib.hid o1
      clear o1
      by_cases n1 : n < 1
      · have t1 : decide (n < 1) = true := decide_eq_true n1
        clear hn n1
        go_enter Try.func139, Try.ntmps139
        go_wp2_with (first
      | (go_at_call 68; (with_reducible refine (StateOk_r _ s _ (FIN.out _ S.frame) O1.out).mono ?_); rintro e w9 ⟨rfl, f9⟩; replace S := S.fr f9; clear f9)
      | ((with_reducible refine gate_box rfl ?_); refine aBx S ?_; clear S; intro g9 w9 z9 S) | ((with_reducible refine gate_load rfl ?_); first | refine aLd S ?_ | refine aPt S ?_ | refine aL1 S ?_))
        go_ret
        exact ⟨by rw [r.out]; rfl, S.frame⟩
      · have t1 : decide (n < 1) = false := decide_eq_false n1
        have t2 : decide (8 < n) = true := decide_eq_true (by omega)
        clear hn n1
        go_enter Try.func139, Try.ntmps139
        go_wp2_with (first
      | (go_at_call 68; (with_reducible refine (StateOk_r _ s _ (FIN.out _ S.frame) O1.out).mono ?_); rintro e w9 ⟨rfl, f9⟩; replace S := S.fr f9; clear f9)
      | ((with_reducible refine gate_box rfl ?_); refine aBx S ?_; clear S; intro g9 w9 z9 S) | ((with_reducible refine gate_load rfl ?_); first | refine aLd S ?_ | refine aPt S ?_ | refine aL1 S ?_))
        go_ret
        exact ⟨by rw [r.out]; rfl, S.frame⟩
    | true =>
      have O1 := Lib.hid o1
      clear o1
      by_cases n1 : n < 1
      · have t1 : decide (n < 1) = true := decide_eq_true n1
        clear hn n1
        go_enter Try.func139, Try.ntmps139
        go_wp2_with (first
      | (go_at_call 68; (with_reducible refine (StateOk_r _ s _ (FIN.out _ S.frame) O1.out).mono ?_); rintro e w9 ⟨rfl, f9⟩; replace S := S.fr f9; clear f9)
      | ((with_reducible refine gate_box rfl ?_); refine aBx S ?_; clear S; intro g9 w9 z9 S) | ((with_reducible refine gate_load rfl ?_); first | refine aLd S ?_ | refine aPt S ?_ | refine aL1 S ?_))
        go_ret
        exact ⟨by rw [r.out]; rfl, S.frame⟩
      · have t1 : decide (n < 1) = false := decide_eq_false n1
        have t2 : decide (8 < n) = true := decide_eq_true (by omega)
        clear hn n1
        go_enter Try.func139, Try.ntmps139
        go_wp2_with (first
      | (go_at_call 68; (with_reducible refine (StateOk_r _ s _ (FIN.out _ S.frame) O1.out).mono ?_); rintro e w9 ⟨rfl, f9⟩; replace S := S.fr f9; clear f9)
      | ((with_reducible refine gate_box rfl ?_); refine aBx S ?_; clear S; intro g9 w9 z9 S) | ((with_reducible refine gate_load rfl ?_); first | refine aLd S ?_ | refine aPt S ?_ | refine aL1 S ?_))
        go_ret
        exact ⟨by rw [r.out]; rfl, S.frame⟩
  obtain ⟨k, rfl⟩ : ∃ k : Nat, n = (k : Int) + 1 := ⟨(n - 1).toNat, by omega⟩
  have t1 : decide (((k : Int) + 1) < 1) = false := decide_eq_false (by omega)
  have t2 : decide (8 < ((k : Int) + 1)) = false := decide_eq_false (by omega)
  cases o1 : okSt s with
  | false =>
    have r := Lib.hid (show gotV s ((k : Int) + 1) = 0 by unfold gotV; rw [if_neg]; rintro ⟨h, _⟩; rw [o1] at h; cases h)
    have O1 := Lib.hid o1
    clear o1 hn
    go_enter Try.func139, Try.ntmps139
    go_wp2_with (first
      | (go_at_call 68; (with_reducible refine (StateOk_r _ s _ (FIN.out _ S.frame) O1.out).mono ?_); rintro e w9 ⟨rfl, f9⟩; replace S := S.fr f9; clear f9)
      | ((with_reducible refine gate_box rfl ?_); refine aBx S ?_; clear S; intro g9 w9 z9 S) | ((with_reducible refine gate_load rfl ?_); first | refine aLd S ?_ | refine aPt S ?_ | refine aL1 S ?_))
    go_ret
    exact ⟨by rw [r.out]; rfl, S.frame⟩
  | true =>
    have h8 := (okSt_len o1).2.2.2
    have hk : k < s.got.length := by omega
    have HK := Lib.hid hk
    have gk := okSt_got o1 k HK.out
    have r := Lib.hid (show gotV s ((k : Int) + 1) = s.got[k]'HK.out by unfold gotV; rw [if_pos ⟨o1, by omega, by omega⟩, show ((k : Int) + 1 - 1).toNat = k by omega]; simp [hk])
    have G3 := Lib.hid (show s.got[k]'HK.out = 0 ∨ s.got[k]'HK.out = 1 ∨ s.got[k]'HK.out = 2 by omega)
    have O1 := Lib.hid o1
    have H8 := Lib.hid h8
    have k8 : k < 8 := by omega
    have pw : IntKind.i64.wrap ((k : Int) + 1 - 1) = k := by rw [show (k : Int) + 1 - 1 = k by omega]; exact IntWalk.i64_in _ (by omega)
    have pw2 : IntKind.i64.wrap (k : Int) = k := IntWalk.i64_in _ (by omega)
    have p1 : (k : Int) < 8 := by omega
    clear o1 hn hk h8 gk h14
    go_enter Try.func139, Try.ntmps139
    go_wp2_with (first
      | (go_at_call 68; (with_reducible refine (StateOk_r _ s _ (FIN.out _ S.frame) O1.out).mono ?_); rintro e w9 ⟨rfl, f9⟩; replace S := S.fr f9; clear f9)
      | (go_at_call 153; (with_reducible refine (fateAt_c _ s _ (FIN.out _ S.frame) k HK.out H8.out).mono ?_); rintro e w9 ⟨rfl, f9⟩; replace S := S.fr f9; clear f9)
      | (go_at_call 154; (with_reducible refine (fateEntry_c _ (s.got[k]'HK.out) G3.out).mono ?_); rintro e w9 ⟨rfl, rfl⟩)
      | ((with_reducible refine gate_box rfl ?_); refine aBx S ?_; clear S; intro g9 w9 z9 S) | ((with_reducible refine gate_load rfl ?_); first | refine aLd S ?_ | refine aPt S ?_ | refine aL1 S ?_))
    go_ret
    exact ⟨by rw [r.out]; rfl, S.frame⟩
end Go.Proofs.Ytapdcgjccckjeaa
namespace Go.Proofs.Ytapdcgjccckjeaa
set_option maxRecDepth 100000
set_option linter.unusedVariables false
set_option linter.unusedSimpArgs false
open Go.RowKit
def prevK (ks : List Int) (k : Nat) : Int := if k = 0 then 0 else ks.getD (k - 1) 0
def kAt (ks : List Int) (k : Nat) : Bool := decide (prevK ks k < ks.getD k 0) && decide (ks.getD k 0 ≤ 90)
def knOk (ks : List Int) : Bool := (List.range ks.length).all (kAt ks)
def okCh (c : Ch) : Bool := decide (1 ≤ c.id ∧ c.id ≤ 2) && (okBk c.bank && (okSt c.st && (decide (c.past.length ≤ 90) && (c.past.all okSt && knOk c.knows))))
theorem knOk_bad {ks : List Int} {k : Nat} (hk : k < ks.length) (h : kAt ks k = false) : knOk ks = false := by
  cases e : knOk ks with
  | false => rfl
  | true =>
    have := List.all_eq_true.1 e k (List.mem_range.2 hk)
    rw [h] at this
    cases this
theorem kAt_eq {ks : List Int} {k : Nat} (hk : k < ks.length) : kAt ks k = (decide (prevK ks k < ks[k]) && decide (ks[k] ≤ 90)) := by
  unfold kAt
  simp [hk]
theorem prevK_succ {ks : List Int} {k : Nat} (hk : k < ks.length) : prevK ks (k + 1) = ks[k] := by
  unfold prevK
  simp [hk]
theorem prevK_pos {ks : List Int} : ∀ {k : Nat}, k ≤ ks.length → (List.range k).all (kAt ks) = true → 0 ≤ prevK ks k
  | 0, _, _ => by simp [prevK]
  | k + 1, hk, h => by
    have h1 : (List.range k).all (kAt ks) = true := by
      rw [List.range_succ, List.all_append, Bool.and_eq_true] at h
      exact h.1
    have h2 : kAt ks k = true := by
      rw [List.range_succ, List.all_append, Bool.and_eq_true] at h
      simpa using h.2
    have h3 := prevK_pos (Nat.le_of_succ_le hk) h1
    rw [prevK_succ (by omega)]
    rw [kAt_eq (by omega), Bool.and_eq_true, decide_eq_true_eq] at h2
    omega
theorem past_bad {ss : List St} {k : Nat} (hk : k < ss.length) (h : okSt ss[k] = false) : ss.all okSt = false := by
  cases e : ss.all okSt with
  | false => rfl
  | true =>
    have := List.all_eq_true.1 e _ (List.getElem_mem hk)
    rw [h] at this
    cases this
theorem past_succ {ss : List St} {k : Nat} (hk : k < ss.length) (h : (ss.take k).all okSt = true) (hr : okSt ss[k] = true) : (ss.take (k + 1)).all okSt = true := by
  rw [List.take_succ_eq_append_getElem hk, List.all_append, h]
  simp [hr]
theorem tSt_rd_one {w : World} {s : St} {cs : List Value} (h : tSt.rd w s cs) : ∀ u ∈ cs, u.oneCell' = true := by
  obtain ⟨v1, v2, v3, v4, rfl, h1, h2, h3, h4, _⟩ := h
  obtain ⟨A1, c1, rfl⟩ := h1.val
  obtain ⟨A2, c2, rfl⟩ := h2.val
  obtain ⟨A3, c3, rfl⟩ := h3.val
  obtain ⟨A4, c4, rfl⟩ := h4.val
  intro u hu
  simp only [List.mem_cons, List.not_mem_nil, or_false] at hu
  rcases hu with rfl | rfl | rfl | rfl | rfl | rfl | rfl <;> rfl
theorem BankOk_r (w : World) (b : Bk) (c1 : List Value) (h1 : tBk.rd w b c1) {r : Bool} (h : okBk b = r) : Calls Try.prog 67 #[.agg c1.toArray] w (Ret (.bool r) w) := h ▸ BankOk_c w b c1 h1
theorem sBankOk_r (w : World) (b : Bk) (c1 : List Value) (h1 : tBk.rd w b c1) {r : Bool} (h : okBk b = r) : Calls Try.prog 87 #[.agg c1.toArray] w (Ret (.bool r) w) := h ▸ sBankOk_c w b c1 h1
set_option maxHeartbeats 6400000 in
theorem ChainOk_c (w : World) (c : Ch) (c1 : List Value) (h1 : tCh.rd w c c1) : Calls Try.prog 19 #[.agg c1.toArray] w (Ret (.bool (okCh c)) w) := by
  obtain ⟨i, b, s, ps, ks⟩ := c
  obtain ⟨b1, b2, s1, s2, s3, s4, v1, v2, rfl, h11, h12, h13, h14, h15⟩ := h1
  dsimp only at h11 h12 h13 h14 h15 ⊢
  obtain ⟨A1, n1, rfl⟩ := h13.val
  obtain ⟨A2, n2, rfl⟩ := h14.val
  have hp := h13.le
  have hk := h14.le
  clear h15
  have S := Sep.start w
  by_cases hi : i = 1 ∨ i = 2
  case neg =>
    have R := Lib.hid (show okCh ⟨i, b, s, ps, ks⟩ = false by unfold okCh; rw [decide_eq_false (by dsimp only; omega)]; rfl)
    have d1 : (i != 1) = true := by simp; omega
    have d2 : (i != 2) = true := by simp; omega
    clear hi
    go_enter Try.func19, Try.ntmps19
    go_wp2_with (first | ((with_reducible refine gate_box rfl ?_); refine aBx S ?_; clear S; intro g9 w9 z9 S) | ((with_reducible refine gate_alloc rfl ?_); refine aAl S ?_; clear S; intro g9 w9 z9 S) | ((with_reducible refine gate_load rfl ?_); first | refine aLd S ?_ | refine aPt S ?_ | refine aL1 S ?_) | ((with_reducible refine gate_st rfl ?_); (first | refine aS1 S ?_ | refine aSt S ?_ | refine aSp S ?_); clear S; intro w9 S))
    go_ret
    exact ⟨ret_bool R.out.symm, S.frame⟩
  have HI := Lib.hid (show decide (1 ≤ i ∧ i ≤ 2) = true by simp; omega)
  cases o1 : okBk b with
  | false =>
    have R := Lib.hid (show okCh ⟨i, b, s, ps, ks⟩ = false by unfold okCh; dsimp only; rw [o1, Bool.false_and, Bool.and_false])
    have O1 := Lib.hid o1
    clear o1
    rcases hi with rfl | rfl
    all_goals
      go_enter Try.func19, Try.ntmps19
      go_wp2_with (first
        | (go_at_call 67; (with_reducible refine (BankOk_r _ b _ (tBk.fr S.frame h11) O1.out).mono ?_); rintro e w9 ⟨rfl, f9⟩; replace S := S.fr f9; clear f9)
        | ((with_reducible refine gate_box rfl ?_); refine aBx S ?_; clear S; intro g9 w9 z9 S) | ((with_reducible refine gate_alloc rfl ?_); refine aAl S ?_; clear S; intro g9 w9 z9 S) | ((with_reducible refine gate_load rfl ?_); first | refine aLd S ?_ | refine aPt S ?_ | refine aL1 S ?_) | ((with_reducible refine gate_st rfl ?_); (first | refine aS1 S ?_ | refine aSt S ?_ | refine aSp S ?_); clear S; intro w9 S))
      go_ret
      exact ⟨ret_bool R.out.symm, S.frame⟩
  | true =>
  have O1 := Lib.hid o1
  cases o2 : okSt s with
  | false =>
    have R := Lib.hid (show okCh ⟨i, b, s, ps, ks⟩ = false by unfold okCh; dsimp only; rw [o2, Bool.false_and, Bool.and_false, Bool.and_false])
    have O2 := Lib.hid o2
    clear o1 o2
    rcases hi with rfl | rfl
    all_goals
      go_enter Try.func19, Try.ntmps19
      go_wp2_with (first
        | (go_at_call 67; (with_reducible refine (BankOk_r _ b _ (tBk.fr S.frame h11) O1.out).mono ?_); rintro e w9 ⟨rfl, f9⟩; replace S := S.fr f9; clear f9)
        | (go_at_call 68; (with_reducible refine (StateOk_r _ s _ (tSt.fr S.frame h12) O2.out).mono ?_); rintro e w9 ⟨rfl, f9⟩; replace S := S.fr f9; clear f9)
        | ((with_reducible refine gate_box rfl ?_); refine aBx S ?_; clear S; intro g9 w9 z9 S) | ((with_reducible refine gate_alloc rfl ?_); refine aAl S ?_; clear S; intro g9 w9 z9 S) | ((with_reducible refine gate_load rfl ?_); first | refine aLd S ?_ | refine aPt S ?_ | refine aL1 S ?_) | ((with_reducible refine gate_st rfl ?_); (first | refine aS1 S ?_ | refine aSt S ?_ | refine aSp S ?_); clear S; intro w9 S))
      go_ret
      exact ⟨ret_bool R.out.symm, S.frame⟩
  | true =>
  have O2 := Lib.hid o2
  by_cases hp9 : ps.length ≤ 90
  case neg =>
    have R := Lib.hid (show okCh ⟨i, b, s, ps, ks⟩ = false by unfold okCh; dsimp only; rw [decide_eq_false hp9, Bool.false_and, Bool.and_false, Bool.and_false, Bool.and_false])
    have d1 : decide (90 < (ps.length : Int)) = true := decide_eq_true (by omega)
    clear o1 o2
    rcases hi with rfl | rfl
    all_goals
      go_enter Try.func19, Try.ntmps19
      go_wp2_with (first
        | (go_at_call 67; (with_reducible refine (BankOk_r _ b _ (tBk.fr S.frame h11) O1.out).mono ?_); rintro e w9 ⟨rfl, f9⟩; replace S := S.fr f9; clear f9)
        | (go_at_call 68; (with_reducible refine (StateOk_r _ s _ (tSt.fr S.frame h12) O2.out).mono ?_); rintro e w9 ⟨rfl, f9⟩; replace S := S.fr f9; clear f9)
        | ((with_reducible refine gate_box rfl ?_); refine aBx S ?_; clear S; intro g9 w9 z9 S) | ((with_reducible refine gate_alloc rfl ?_); refine aAl S ?_; clear S; intro g9 w9 z9 S) | ((with_reducible refine gate_load rfl ?_); first | refine aLd S ?_ | refine aPt S ?_ | refine aL1 S ?_) | ((with_reducible refine gate_st rfl ?_); (first | refine aS1 S ?_ | refine aSt S ?_ | refine aSp S ?_); clear S; intro w9 S))
      go_ret
      exact ⟨ret_bool R.out.symm, S.frame⟩
  have R0 := Lib.hid (show okCh ⟨i, b, s, ps, ks⟩ = (ps.all okSt && knOk ks) by unfold okCh; dsimp only; rw [HI.out, o1, o2, decide_eq_true hp9, Bool.true_and, Bool.true_and, Bool.true_and, Bool.true_and])
  have d1 : decide (90 < (ps.length : Int)) = false := decide_eq_false (by omega)
  clear o1 o2
  rcases hi with rfl | rfl
  all_goals
    go_enter Try.func19, Try.ntmps19
    go_wp2_with (first
      | ((with_reducible refine gate_dst (N := 1) rfl ?_); refine aBx S ?_; clear S; intro gC w9 z9 S)
      | (go_at_call 67; (with_reducible refine (BankOk_r _ b _ (tBk.fr S.frame h11) O1.out).mono ?_); rintro e w9 ⟨rfl, f9⟩; replace S := S.fr f9; clear f9)
      | (go_at_call 68; (with_reducible refine (StateOk_r _ s _ (tSt.fr S.frame h12) O2.out).mono ?_); rintro e w9 ⟨rfl, f9⟩; replace S := S.fr f9; clear f9)
      | ((with_reducible refine gate_box rfl ?_); refine aBx S ?_; clear S; intro g9 w9 z9 S) | ((with_reducible refine gate_alloc rfl ?_); refine aAl S ?_; clear S; intro g9 w9 z9 S) | ((with_reducible refine gate_load rfl ?_); first | refine aLd S ?_ | refine aPt S ?_ | refine aL1 S ?_) | ((with_reducible refine gate_st rfl ?_); (first | refine aS1 S ?_ | refine aSt S ?_ | refine aSp S ?_); clear S; intro w9 S))
    go_loopw [37] (fun i wr => ∃ k : Nat, k ≤ ps.length ∧ i = .int .i64 k ∧ (ps.take k).all okSt = true ∧ Sep [] w [aBox gC 33 13 _] wr) (fun i _ => ps.length - (intOf i).toNat)
    case atStart => exact ⟨0, Nat.zero_le _, rfl, by simp, S⟩
    case round =>
      clear S
      obtain ⟨k, hk1, rfl, hall, S⟩ := hrel
      have HA := Lib.hid hall
      clear hall
      by_cases hlt : k < ps.length
      · obtain ⟨ad1, cs1, rfl, r1, g1⟩ := cellsAt_of_row h13 k hlt
        have G1 := Lib.hid (fun (W : World) (f : Fr w W) => g1.fr f)
        have Q1 := Lib.hid (fun (W : World) (f : Fr w W) => tSt.fr f r1)
        have N1 := Lib.hid (show cs1.length = 7 from tSt.len r1)
        have n1 := tSt_rd_one r1
        have HL := Lib.hid hlt
        have p0 : (0 : Int) ≤ (k : Int) := Int.natCast_nonneg _
        have p1 : (k : Int) < (ps.length : Int) := by omega
        clear g1 r1
        cases o1 : okSt (ps[k]'HL.out) with
        | false =>
          have R := Lib.hid (show (ps.all okSt && knOk ks) = false by rw [past_bad HL.out o1]; rfl)
          have O3 := Lib.hid o1
          clear o1
          go_wp2_with (first
            | ((with_reducible refine gate_dst (N := 40) rfl ?_); refine aRw (G1.out _ S.frame) ?_ (hn := N1.out))
            | (go_at_call 68; (with_reducible refine (StateOk_r _ _ _ (Q1.out _ S.frame) O3.out).mono ?_); rintro e w9 ⟨rfl, f9⟩; replace S := S.fr f9; clear f9)
            | ((with_reducible refine gate_box rfl ?_); refine aBx S ?_; clear S; intro g9 w9 z9 S) | ((with_reducible refine gate_alloc rfl ?_); refine aAl S ?_; clear S; intro g9 w9 z9 S) | ((with_reducible refine gate_load rfl ?_); first | refine aLd S ?_ | refine aPt S ?_ | refine aL1 S ?_) | ((with_reducible refine gate_st rfl ?_); (first | refine aS1 S ?_ | refine aSt S ?_ | refine aSp S ?_); clear S; intro w9 S))
          go_ret
          exact ⟨ret_bool (by rw [R0.out, R.out]), S.frame⟩
        | true =>
          have R := Lib.hid (past_succ HL.out HA.out o1)
          have O3 := Lib.hid o1
          clear o1
          go_wp2_with (first
            | ((with_reducible refine gate_dst (N := 40) rfl ?_); refine aRw (G1.out _ S.frame) ?_ (hn := N1.out))
            | (go_at_call 68; (with_reducible refine (StateOk_r _ _ _ (Q1.out _ S.frame) O3.out).mono ?_); rintro e w9 ⟨rfl, f9⟩; replace S := S.fr f9; clear f9)
            | ((with_reducible refine gate_box rfl ?_); refine aBx S ?_; clear S; intro g9 w9 z9 S) | ((with_reducible refine gate_alloc rfl ?_); refine aAl S ?_; clear S; intro g9 w9 z9 S) | ((with_reducible refine gate_load rfl ?_); first | refine aLd S ?_ | refine aPt S ?_ | refine aL1 S ?_) | ((with_reducible refine gate_st rfl ?_); (first | refine aS1 S ?_ | refine aSt S ?_ | refine aSp S ?_); clear S; intro w9 S))
          go_roundw
          case rel => exact ⟨k + 1, by omega, by go_num, R.out, (Sep.only1 (a1 := aBox gC _ _ _) S delA)⟩
          case measure => simp [intOf]; omega
      · obtain rfl : k = ps.length := by omega
        rw [List.take_length] at HA
        have R1 := Lib.hid (show okCh _ = knOk ks from R0.out.trans (by rw [HA.out]; rfl))
        clear R0 HA
        go_wp2_with (first | ((with_reducible refine gate_box rfl ?_); refine aBx S ?_; clear S; intro g9 w9 z9 S) | ((with_reducible refine gate_alloc rfl ?_); refine aAl S ?_; clear S; intro g9 w9 z9 S) | ((with_reducible refine gate_load rfl ?_); first | refine aLd S ?_ | refine aPt S ?_ | refine aL1 S ?_) | ((with_reducible refine gate_st rfl ?_); (first | refine aS1 S ?_ | refine aSt S ?_ | refine aSp S ?_); clear S; intro w9 S))
        go_loopw [48, 5] (fun i bf wr => ∃ k : Nat, k ≤ ks.length ∧ i = .int .i64 k ∧ bf = .int .i64 (prevK ks k) ∧ (List.range k).all (kAt ks) = true ∧ Sep [] w [aBox gC 33 13 _] wr) (fun i _ _ => ks.length - (intOf i).toNat)
        case atStart => exact ⟨0, Nat.zero_le _, rfl, rfl, rfl, S⟩
        case round =>
          clear S
          obtain ⟨k, hk1, rfl, rfl, hall, S⟩ := hrel
          have HA := Lib.hid hall
          clear hall
          by_cases hlt : k < ks.length
          · obtain ⟨ad1, rfl, g1⟩ := row_int_at h14 k hlt
            have G1 := Lib.hid g1
            have KA := Lib.hid (kAt_eq hlt)
            have KB := Lib.hid (fun h => knOk_bad hlt h)
            have PS := Lib.hid (prevK_succ hlt)
            obtain ⟨x, hx⟩ : ∃ x, ks[k] = x := ⟨_, rfl⟩
            obtain ⟨p, hpv⟩ : ∃ p, prevK ks k = p := ⟨_, rfl⟩
            rw [hx] at G1 KA PS
            rw [hpv] at KA ⊢
            clear g1 hx hpv
            have p0 : (0 : Int) ≤ (k : Int) := Int.natCast_nonneg _
            have p1 : (k : Int) < (ks.length : Int) := by omega
            by_cases x1 : x ≤ p
            · have R := Lib.hid (show knOk ks = false from KB.out (by rw [KA.out, decide_eq_false (by omega)]; rfl))
              go_wp2_with (first
                | ((with_reducible refine gate_dst (N := 51) rfl ?_); refine aRc (S.frame.cell G1.out) ?_)
                | ((with_reducible refine gate_box rfl ?_); refine aBx S ?_; clear S; intro g9 w9 z9 S) | ((with_reducible refine gate_alloc rfl ?_); refine aAl S ?_; clear S; intro g9 w9 z9 S) | ((with_reducible refine gate_load rfl ?_); first | refine aLd S ?_ | refine aPt S ?_ | refine aL1 S ?_) | ((with_reducible refine gate_st rfl ?_); (first | refine aS1 S ?_ | refine aSt S ?_ | refine aSp S ?_); clear S; intro w9 S))
              go_ret
              exact ⟨ret_bool (by rw [R1.out, R.out]), S.frame⟩
            by_cases x2 : x ≤ 90
            · have R := Lib.hid (show kAt ks k = true by rw [KA.out, decide_eq_true x2, decide_eq_true (show p < x by omega)]; rfl)
              have d2 : decide (x ≤ p) = false := decide_eq_false x1
              have d3 : decide (90 < x) = false := decide_eq_false (by omega)
              go_wp2_with (first
                | ((with_reducible refine gate_dst (N := 51) rfl ?_); refine aRc (S.frame.cell G1.out) ?_)
                | ((with_reducible refine gate_box rfl ?_); refine aBx S ?_; clear S; intro g9 w9 z9 S) | ((with_reducible refine gate_alloc rfl ?_); refine aAl S ?_; clear S; intro g9 w9 z9 S) | ((with_reducible refine gate_load rfl ?_); first | refine aLd S ?_ | refine aPt S ?_ | refine aL1 S ?_) | ((with_reducible refine gate_st rfl ?_); (first | refine aS1 S ?_ | refine aSt S ?_ | refine aSp S ?_); clear S; intro w9 S))
              go_roundw
              case rel => exact ⟨k + 1, by omega, by go_num, by rw [PS.out], range_all_succ HA.out R.out, S⟩
              case measure => simp [intOf]; omega
            · have R := Lib.hid (show knOk ks = false from KB.out (by rw [KA.out, decide_eq_false x2, Bool.and_false]))
              have d2 : decide (x ≤ p) = false := decide_eq_false x1
              have d3 : decide (90 < x) = true := decide_eq_true (by omega)
              go_wp2_with (first
                | ((with_reducible refine gate_dst (N := 51) rfl ?_); refine aRc (S.frame.cell G1.out) ?_)
                | ((with_reducible refine gate_box rfl ?_); refine aBx S ?_; clear S; intro g9 w9 z9 S) | ((with_reducible refine gate_alloc rfl ?_); refine aAl S ?_; clear S; intro g9 w9 z9 S) | ((with_reducible refine gate_load rfl ?_); first | refine aLd S ?_ | refine aPt S ?_ | refine aL1 S ?_) | ((with_reducible refine gate_st rfl ?_); (first | refine aS1 S ?_ | refine aSt S ?_ | refine aSp S ?_); clear S; intro w9 S))
              go_ret
              exact ⟨ret_bool (by rw [R1.out, R.out]), S.frame⟩
          · obtain rfl : k = ks.length := by omega
            have R := Lib.hid (show knOk ks = true from HA.out)
            go_wp2_with (first | ((with_reducible refine gate_box rfl ?_); refine aBx S ?_; clear S; intro g9 w9 z9 S) | ((with_reducible refine gate_alloc rfl ?_); refine aAl S ?_; clear S; intro g9 w9 z9 S) | ((with_reducible refine gate_load rfl ?_); first | refine aLd S ?_ | refine aPt S ?_ | refine aL1 S ?_) | ((with_reducible refine gate_st rfl ?_); (first | refine aS1 S ?_ | refine aSt S ?_ | refine aSp S ?_); clear S; intro w9 S))
            go_ret
            exact ⟨ret_bool (by rw [R1.out, R.out]), S.frame⟩
end Go.Proofs.Ytapdcgjccckjeaa
namespace Go.Proofs.Ytapdcgjccckjeaa
set_option maxRecDepth 100000
set_option linter.unusedVariables false
set_option linter.unusedSimpArgs false
open Go.RowKit
set_option maxHeartbeats 6400000 in
theorem sChainOk_c (w : World) (c : Ch) (c1 : List Value) (h1 : tCh.rd w c c1) : Calls Try.prog 33 #[.agg c1.toArray] w (Ret (.bool (okCh c)) w) := by
  obtain ⟨i, b, s, ps, ks⟩ := c
  obtain ⟨b1, b2, s1, s2, s3, s4, v1, v2, rfl, h11, h12, h13, h14, h15⟩ := h1
  dsimp only at h11 h12 h13 h14 h15 ⊢
  obtain ⟨A1, n1, rfl⟩ := h13.val
  obtain ⟨A2, n2, rfl⟩ := h14.val
  have hp := h13.le
  have hk := h14.le
  clear h15
  have S := Sep.start w
  cases hi : decide (1 ≤ i ∧ i ≤ 2) with
  | false =>
    have R := Lib.hid (show okCh ⟨i, b, s, ps, ks⟩ = false by unfold okCh; dsimp only; rw [hi]; rfl)
    have HI := Lib.hid hi
    clear hi
    go_enter Try.func33, Try.ntmps33
    go_wp2_with (first
      | (go_at_call 61; (with_reducible refine (l6In_e _ i 1 2 HI.out).mono ?_); rintro e w9 ⟨rfl, rfl⟩)
      | ((with_reducible refine gate_box rfl ?_); refine aBx S ?_; clear S; intro g9 w9 z9 S) | ((with_reducible refine gate_alloc rfl ?_); refine aAl S ?_; clear S; intro g9 w9 z9 S) | ((with_reducible refine gate_load rfl ?_); first | refine aLd S ?_ | refine aPt S ?_ | refine aL1 S ?_) | ((with_reducible refine gate_st rfl ?_); (first | refine aS1 S ?_ | refine aSt S ?_ | refine aSp S ?_); clear S; intro w9 S))
    go_ret
    exact ⟨ret_bool R.out.symm, S.frame⟩
  | true =>
  have HI := Lib.hid hi
  cases o1 : okBk b with
  | false =>
    have R := Lib.hid (show okCh ⟨i, b, s, ps, ks⟩ = false by unfold okCh; dsimp only; rw [o1, Bool.false_and, Bool.and_false])
    have O1 := Lib.hid o1
    clear o1 hi
    go_enter Try.func33, Try.ntmps33
    go_wp2_with (first
      | (go_at_call 61; (with_reducible refine (l6In_e _ i 1 2 HI.out).mono ?_); rintro e w9 ⟨rfl, rfl⟩)
      | (go_at_call 87; (with_reducible refine (sBankOk_r _ b _ (tBk.fr S.frame h11) O1.out).mono ?_); rintro e w9 ⟨rfl, f9⟩; replace S := S.fr f9; clear f9)
      | ((with_reducible refine gate_box rfl ?_); refine aBx S ?_; clear S; intro g9 w9 z9 S) | ((with_reducible refine gate_alloc rfl ?_); refine aAl S ?_; clear S; intro g9 w9 z9 S) | ((with_reducible refine gate_load rfl ?_); first | refine aLd S ?_ | refine aPt S ?_ | refine aL1 S ?_) | ((with_reducible refine gate_st rfl ?_); (first | refine aS1 S ?_ | refine aSt S ?_ | refine aSp S ?_); clear S; intro w9 S))
    go_ret
    exact ⟨ret_bool R.out.symm, S.frame⟩
  | true =>
  have O1 := Lib.hid o1
  cases o2 : okSt s with
  | false =>
    have R := Lib.hid (show okCh ⟨i, b, s, ps, ks⟩ = false by unfold okCh; dsimp only; rw [o2, Bool.false_and, Bool.and_false, Bool.and_false])
    have O2 := Lib.hid o2
    clear o1 o2 hi
    go_enter Try.func33, Try.ntmps33
    go_wp2_with (first
      | (go_at_call 61; (with_reducible refine (l6In_e _ i 1 2 HI.out).mono ?_); rintro e w9 ⟨rfl, rfl⟩)
      | (go_at_call 87; (with_reducible refine (sBankOk_r _ b _ (tBk.fr S.frame h11) O1.out).mono ?_); rintro e w9 ⟨rfl, f9⟩; replace S := S.fr f9; clear f9)
      | (go_at_call 88; (with_reducible refine (sStateOk_r _ s _ (tSt.fr S.frame h12) O2.out).mono ?_); rintro e w9 ⟨rfl, f9⟩; replace S := S.fr f9; clear f9)
      | ((with_reducible refine gate_box rfl ?_); refine aBx S ?_; clear S; intro g9 w9 z9 S) | ((with_reducible refine gate_alloc rfl ?_); refine aAl S ?_; clear S; intro g9 w9 z9 S) | ((with_reducible refine gate_load rfl ?_); first | refine aLd S ?_ | refine aPt S ?_ | refine aL1 S ?_) | ((with_reducible refine gate_st rfl ?_); (first | refine aS1 S ?_ | refine aSt S ?_ | refine aSp S ?_); clear S; intro w9 S))
    go_ret
    exact ⟨ret_bool R.out.symm, S.frame⟩
  | true =>
  have O2 := Lib.hid o2
  by_cases hp9 : ps.length ≤ 90
  case neg =>
    have R := Lib.hid (show okCh ⟨i, b, s, ps, ks⟩ = false by unfold okCh; dsimp only; rw [decide_eq_false hp9, Bool.false_and, Bool.and_false, Bool.and_false, Bool.and_false])
    have d1 : decide (90 < (ps.length : Int)) = true := decide_eq_true (by omega)
    clear o1 o2 hi
    go_enter Try.func33, Try.ntmps33
    go_wp2_with (first
      | (go_at_call 61; (with_reducible refine (l6In_e _ i 1 2 HI.out).mono ?_); rintro e w9 ⟨rfl, rfl⟩)
      | (go_at_call 87; (with_reducible refine (sBankOk_r _ b _ (tBk.fr S.frame h11) O1.out).mono ?_); rintro e w9 ⟨rfl, f9⟩; replace S := S.fr f9; clear f9)
      | (go_at_call 88; (with_reducible refine (sStateOk_r _ s _ (tSt.fr S.frame h12) O2.out).mono ?_); rintro e w9 ⟨rfl, f9⟩; replace S := S.fr f9; clear f9)
      | ((with_reducible refine gate_box rfl ?_); refine aBx S ?_; clear S; intro g9 w9 z9 S) | ((with_reducible refine gate_alloc rfl ?_); refine aAl S ?_; clear S; intro g9 w9 z9 S) | ((with_reducible refine gate_load rfl ?_); first | refine aLd S ?_ | refine aPt S ?_ | refine aL1 S ?_) | ((with_reducible refine gate_st rfl ?_); (first | refine aS1 S ?_ | refine aSt S ?_ | refine aSp S ?_); clear S; intro w9 S))
    go_ret
    exact ⟨ret_bool R.out.symm, S.frame⟩
  have R0 := Lib.hid (show okCh ⟨i, b, s, ps, ks⟩ = (ps.all okSt && knOk ks) by unfold okCh; dsimp only; rw [HI.out, o1, o2, decide_eq_true hp9, Bool.true_and, Bool.true_and, Bool.true_and, Bool.true_and])
  have d1 : decide (90 < (ps.length : Int)) = false := decide_eq_false (by omega)
  clear o1 o2 hi
  go_enter Try.func33, Try.ntmps33
  go_wp2_with (first
    | ((with_reducible refine gate_dst (N := 1) rfl ?_); refine aBx S ?_; clear S; intro gC w9 z9 S)
    | (go_at_call 61; (with_reducible refine (l6In_e _ i 1 2 HI.out).mono ?_); rintro e w9 ⟨rfl, rfl⟩)
    | (go_at_call 87; (with_reducible refine (sBankOk_r _ b _ (tBk.fr S.frame h11) O1.out).mono ?_); rintro e w9 ⟨rfl, f9⟩; replace S := S.fr f9; clear f9)
    | (go_at_call 88; (with_reducible refine (sStateOk_r _ s _ (tSt.fr S.frame h12) O2.out).mono ?_); rintro e w9 ⟨rfl, f9⟩; replace S := S.fr f9; clear f9)
    | ((with_reducible refine gate_box rfl ?_); refine aBx S ?_; clear S; intro g9 w9 z9 S) | ((with_reducible refine gate_alloc rfl ?_); refine aAl S ?_; clear S; intro g9 w9 z9 S) | ((with_reducible refine gate_load rfl ?_); first | refine aLd S ?_ | refine aPt S ?_ | refine aL1 S ?_) | ((with_reducible refine gate_st rfl ?_); (first | refine aS1 S ?_ | refine aSt S ?_ | refine aSp S ?_); clear S; intro w9 S))
  go_loopw [3] (fun i wr => ∃ k : Nat, k ≤ ps.length ∧ i = .int .i64 k ∧ (ps.take k).all okSt = true ∧ Sep [] w [aBox gC 33 13 _] wr) (fun i _ => ps.length - (intOf i).toNat)
  case atStart => exact ⟨0, Nat.zero_le _, rfl, by simp, S⟩
  case round =>
    clear S
    obtain ⟨k, hk1, rfl, hall, S⟩ := hrel
    have HA := Lib.hid hall
    clear hall
    by_cases hlt : k < ps.length
    · obtain ⟨ad1, cs1, rfl, r1, g1⟩ := cellsAt_of_row h13 k hlt
      have G1 := Lib.hid (fun (W : World) (f : Fr w W) => g1.fr f)
      have Q1 := Lib.hid (fun (W : World) (f : Fr w W) => tSt.fr f r1)
      have N1 := Lib.hid (show cs1.length = 7 from tSt.len r1)
      have HL := Lib.hid hlt
      have p0 : (0 : Int) ≤ (k : Int) := Int.natCast_nonneg _
      have p1 : (k : Int) < (ps.length : Int) := by omega
      clear g1 r1
      cases o1 : okSt (ps[k]'HL.out) with
      | false =>
        have R := Lib.hid (show (ps.all okSt && knOk ks) = false by rw [past_bad HL.out o1]; rfl)
        have O3 := Lib.hid o1
        clear o1
        go_wp2_with (first
          | ((with_reducible refine gate_dst (N := 38) rfl ?_); refine aRw (G1.out _ S.frame) ?_ (hn := N1.out))
          | (go_at_call 88; (with_reducible refine (sStateOk_r _ _ _ (Q1.out _ S.frame) O3.out).mono ?_); rintro e w9 ⟨rfl, f9⟩; replace S := S.fr f9; clear f9)
          | ((with_reducible refine gate_box rfl ?_); refine aBx S ?_; clear S; intro g9 w9 z9 S) | ((with_reducible refine gate_alloc rfl ?_); refine aAl S ?_; clear S; intro g9 w9 z9 S) | ((with_reducible refine gate_load rfl ?_); first | refine aLd S ?_ | refine aPt S ?_ | refine aL1 S ?_) | ((with_reducible refine gate_st rfl ?_); (first | refine aS1 S ?_ | refine aSt S ?_ | refine aSp S ?_); clear S; intro w9 S))
        go_ret
        exact ⟨ret_bool (by rw [R0.out, R.out]), S.frame⟩
      | true =>
        have R := Lib.hid (past_succ HL.out HA.out o1)
        have O3 := Lib.hid o1
        clear o1
        go_wp2_with (first
          | ((with_reducible refine gate_dst (N := 38) rfl ?_); refine aRw (G1.out _ S.frame) ?_ (hn := N1.out))
          | (go_at_call 88; (with_reducible refine (sStateOk_r _ _ _ (Q1.out _ S.frame) O3.out).mono ?_); rintro e w9 ⟨rfl, f9⟩; replace S := S.fr f9; clear f9)
          | ((with_reducible refine gate_box rfl ?_); refine aBx S ?_; clear S; intro g9 w9 z9 S) | ((with_reducible refine gate_alloc rfl ?_); refine aAl S ?_; clear S; intro g9 w9 z9 S) | ((with_reducible refine gate_load rfl ?_); first | refine aLd S ?_ | refine aPt S ?_ | refine aL1 S ?_) | ((with_reducible refine gate_st rfl ?_); (first | refine aS1 S ?_ | refine aSt S ?_ | refine aSp S ?_); clear S; intro w9 S))
        go_roundw
        case rel => exact ⟨k + 1, by omega, by go_num, R.out, S⟩
        case measure => simp [intOf]; omega
    · obtain rfl : k = ps.length := by omega
      rw [List.take_length] at HA
      have R1 := Lib.hid (show okCh _ = knOk ks from R0.out.trans (by rw [HA.out]; rfl))
      clear R0 HA
      go_wp2_with (first | ((with_reducible refine gate_box rfl ?_); refine aBx S ?_; clear S; intro g9 w9 z9 S) | ((with_reducible refine gate_alloc rfl ?_); refine aAl S ?_; clear S; intro g9 w9 z9 S) | ((with_reducible refine gate_load rfl ?_); first | refine aLd S ?_ | refine aPt S ?_ | refine aL1 S ?_) | ((with_reducible refine gate_st rfl ?_); (first | refine aS1 S ?_ | refine aSt S ?_ | refine aSp S ?_); clear S; intro w9 S))
      go_loopw [4] (fun i wr => ∃ k : Nat, k ≤ ks.length ∧ i = .int .i64 k ∧ (List.range k).all (kAt ks) = true ∧ Sep [] w [aBox gC 33 13 _] wr) (fun i _ => ks.length - (intOf i).toNat)
      case atStart => exact ⟨0, Nat.zero_le _, rfl, rfl, S⟩
      case round =>
        clear S
        obtain ⟨k, hk1, rfl, hall, S⟩ := hrel
        have HA := Lib.hid hall
        have PP := Lib.hid (prevK_pos hk1 hall)
        clear hall
        by_cases hlt : k < ks.length
        · obtain ⟨ad1, rfl, g1⟩ := row_int_at h14 k hlt
          have G1 := Lib.hid g1
          have KA := Lib.hid (kAt_eq hlt)
          have KB := Lib.hid (fun h => knOk_bad hlt h)
          obtain ⟨x, hx⟩ : ∃ x, ks[k] = x := ⟨_, rfl⟩
          rw [hx] at G1 KA
          clear hx
          have p1 : (k : Int) < (ks.length : Int) := by omega
          rcases k with _ | m
          · have G0 := G1
            have PV := Lib.hid (show prevK ks 0 = 0 from rfl)
            cases x1 : decide (1 ≤ x ∧ x ≤ 90) with
            | false =>
              have X1 := Lib.hid x1
              have R := Lib.hid (show knOk ks = false from KB.out (by rw [KA.out, PV.out]; simp at x1 ⊢; omega))
              clear x1 g1
              go_wp2_with (first | ((with_reducible refine gate_box rfl ?_); refine aBx S ?_; clear S; intro g9 w9 z9 S) | ((with_reducible refine gate_alloc rfl ?_); refine aAl S ?_; clear S; intro g9 w9 z9 S) | ((with_reducible refine gate_load rfl ?_); first | refine aLd S ?_ | refine aPt S ?_ | refine aL1 S ?_) | ((with_reducible refine gate_st rfl ?_); (first | refine aS1 S ?_ | refine aSt S ?_ | refine aSp S ?_); clear S; intro w9 S))
              have S0 := S
              refine wp_region_noPanic ?_
              refine wp_region_held_drew (S := Sep _ _ _) (by kernel_rfl) S0.drew (fun _ => ?_)
              replace S := S.drew
              clear S0
              refine tk 0 ?_
              (try simp only [Act.put, List.setIfInBounds_toArray, List.set_cons_zero, List.set_cons_succ])
              refine tk 1 ?_
              (try simp only [Act.put, List.setIfInBounds_toArray, List.set_cons_zero, List.set_cons_succ])
              refine tk 2 ?_
              (try simp only [Act.put, List.setIfInBounds_toArray, List.set_cons_zero, List.set_cons_succ])
              refine tk 3 ?_
              (try simp only [Act.put, List.setIfInBounds_toArray, List.set_cons_zero, List.set_cons_succ])
              refine tk 4 ?_ (hy := by exact yRc (fun w' h => h.frame.cell G1.out))
              (try simp only [Act.put, List.setIfInBounds_toArray, List.set_cons_zero, List.set_cons_succ])
              refine rdy1 5 (fun K hK => ?_)
              go_simp; (skip; go_at_call 61; (with_reducible refine (l6In_e _ x 1 90 X1.out).mono ?_); rintro e w9 ⟨rfl, rfl⟩)
              (first | refine hK.out _ _ (S.sub subA) (fun _ => ?_) | (go_wp2_with fail; refine hK.out _ _ (S.sub subA) (fun _ => ?_)))
              clear hK K
              (try simp only [Act.put, List.setIfInBounds_toArray, List.set_cons_zero, List.set_cons_succ])
              refine tk 6 ?_
              (try simp only [Act.put, List.setIfInBounds_toArray, List.set_cons_zero, List.set_cons_succ])
              refine tk 7 ?_
              (try simp only [Act.put, List.setIfInBounds_toArray, List.set_cons_zero, List.set_cons_succ])
              refine tk 8 ?_
              (try simp only [Act.put, List.setIfInBounds_toArray, List.set_cons_zero, List.set_cons_succ])
              refine tk 9 ?_
              (try simp only [Act.put, List.setIfInBounds_toArray, List.set_cons_zero, List.set_cons_succ])
              refine tk 10 ?_
              (try simp only [Act.put, List.setIfInBounds_toArray, List.set_cons_zero, List.set_cons_succ])
              refine tk 11 ?_
              (try simp only [Act.put, List.setIfInBounds_toArray, List.set_cons_zero, List.set_cons_succ])
              refine tk 12 ?_
              (try simp only [Act.put, List.setIfInBounds_toArray, List.set_cons_zero, List.set_cons_succ])
              refine tk 13 ?_
              (try simp only [Act.put, List.setIfInBounds_toArray, List.set_cons_zero, List.set_cons_succ])
              refine tk 14 ?_
              (try simp only [Act.put, List.setIfInBounds_toArray, List.set_cons_zero, List.set_cons_succ])
              refine tk 15 ?_
              (try simp only [Act.put, List.setIfInBounds_toArray, List.set_cons_zero, List.set_cons_succ])
              refine tk 16 ?_ (hy := by first | exact yRc (fun w' h => h.frame.cell G0.out) | (refine Or.inr ⟨by rfl, ?_⟩; rfl))
              (try simp only [Act.put, List.setIfInBounds_toArray, List.set_cons_zero, List.set_cons_succ])
              refine tk 17 ?_
              (try simp only [Act.put, List.setIfInBounds_toArray, List.set_cons_zero, List.set_cons_succ])
              refine tk 18 ?_
              (try simp only [Act.put, List.setIfInBounds_toArray, List.set_cons_zero, List.set_cons_succ])
              refine tk 19 ?_
              (try simp only [Act.put, List.setIfInBounds_toArray, List.set_cons_zero, List.set_cons_succ])
              refine tk 20 ?_
              (try simp only [Act.put, List.setIfInBounds_toArray, List.set_cons_zero, List.set_cons_succ])
              refine tk 21 ?_ (hy := by first | exact yRc (fun w' h => h.frame.cell G1.out) | (refine Or.inr ⟨by rfl, ?_⟩; rfl))
              (try simp only [Act.put, List.setIfInBounds_toArray, List.set_cons_zero, List.set_cons_succ])
              refine tk 22 ?_
              (try simp only [Act.put, List.setIfInBounds_toArray, List.set_cons_zero, List.set_cons_succ])
              refine tk 23 ?_
              (try simp only [Act.put, List.setIfInBounds_toArray, List.set_cons_zero, List.set_cons_succ])
              refine tk 24 ?_
              (try simp only [Act.put, List.setIfInBounds_toArray, List.set_cons_zero, List.set_cons_succ])
              refine wpAnyH_done (by kernel_rfl) ?_ _
              refine NoPanic.normal ?_
              go_wp2
              go_ret
              exact ⟨ret_bool (by rw [R1.out, R.out]), S.frame⟩
            | true =>
              have X1 := Lib.hid x1
              have R := Lib.hid (show kAt ks 0 = true by rw [KA.out, PV.out]; simp at x1 ⊢; omega)
              clear x1 g1
              go_wp2_with (first | ((with_reducible refine gate_box rfl ?_); refine aBx S ?_; clear S; intro g9 w9 z9 S) | ((with_reducible refine gate_alloc rfl ?_); refine aAl S ?_; clear S; intro g9 w9 z9 S) | ((with_reducible refine gate_load rfl ?_); first | refine aLd S ?_ | refine aPt S ?_ | refine aL1 S ?_) | ((with_reducible refine gate_st rfl ?_); (first | refine aS1 S ?_ | refine aSt S ?_ | refine aSp S ?_); clear S; intro w9 S))
              have S0 := S
              refine wp_region_noPanic ?_
              refine wp_region_held_drew (S := Sep _ _ _) (by kernel_rfl) S0.drew (fun _ => ?_)
              replace S := S.drew
              clear S0
              refine tk 0 ?_
              (try simp only [Act.put, List.setIfInBounds_toArray, List.set_cons_zero, List.set_cons_succ])
              refine tk 1 ?_
              (try simp only [Act.put, List.setIfInBounds_toArray, List.set_cons_zero, List.set_cons_succ])
              refine tk 2 ?_
              (try simp only [Act.put, List.setIfInBounds_toArray, List.set_cons_zero, List.set_cons_succ])
              refine tk 3 ?_
              (try simp only [Act.put, List.setIfInBounds_toArray, List.set_cons_zero, List.set_cons_succ])
              refine tk 4 ?_ (hy := by exact yRc (fun w' h => h.frame.cell G1.out))
              (try simp only [Act.put, List.setIfInBounds_toArray, List.set_cons_zero, List.set_cons_succ])
              refine rdy1 5 (fun K hK => ?_)
              go_simp; (skip; go_at_call 61; (with_reducible refine (l6In_e _ x 1 90 X1.out).mono ?_); rintro e w9 ⟨rfl, rfl⟩)
              (first | refine hK.out _ _ (S.sub subA) (fun _ => ?_) | (go_wp2_with fail; refine hK.out _ _ (S.sub subA) (fun _ => ?_)))
              clear hK K
              (try simp only [Act.put, List.setIfInBounds_toArray, List.set_cons_zero, List.set_cons_succ])
              refine tk 6 ?_
              (try simp only [Act.put, List.setIfInBounds_toArray, List.set_cons_zero, List.set_cons_succ])
              refine tk 7 ?_
              (try simp only [Act.put, List.setIfInBounds_toArray, List.set_cons_zero, List.set_cons_succ])
              refine tk 8 ?_
              (try simp only [Act.put, List.setIfInBounds_toArray, List.set_cons_zero, List.set_cons_succ])
              refine tk 9 ?_
              (try simp only [Act.put, List.setIfInBounds_toArray, List.set_cons_zero, List.set_cons_succ])
              refine tk 10 ?_
              (try simp only [Act.put, List.setIfInBounds_toArray, List.set_cons_zero, List.set_cons_succ])
              refine tk 11 ?_
              (try simp only [Act.put, List.setIfInBounds_toArray, List.set_cons_zero, List.set_cons_succ])
              refine tk 12 ?_
              (try simp only [Act.put, List.setIfInBounds_toArray, List.set_cons_zero, List.set_cons_succ])
              refine tk 13 ?_
              (try simp only [Act.put, List.setIfInBounds_toArray, List.set_cons_zero, List.set_cons_succ])
              refine tk 14 ?_
              (try simp only [Act.put, List.setIfInBounds_toArray, List.set_cons_zero, List.set_cons_succ])
              refine tk 15 ?_
              (try simp only [Act.put, List.setIfInBounds_toArray, List.set_cons_zero, List.set_cons_succ])
              refine tk 16 ?_ (hy := by first | exact yRc (fun w' h => h.frame.cell G0.out) | (refine Or.inr ⟨by rfl, ?_⟩; rfl))
              (try simp only [Act.put, List.setIfInBounds_toArray, List.set_cons_zero, List.set_cons_succ])
              refine tk 17 ?_
              (try simp only [Act.put, List.setIfInBounds_toArray, List.set_cons_zero, List.set_cons_succ])
              refine tk 18 ?_
              (try simp only [Act.put, List.setIfInBounds_toArray, List.set_cons_zero, List.set_cons_succ])
              refine tk 19 ?_
              (try simp only [Act.put, List.setIfInBounds_toArray, List.set_cons_zero, List.set_cons_succ])
              refine tk 20 ?_
              (try simp only [Act.put, List.setIfInBounds_toArray, List.set_cons_zero, List.set_cons_succ])
              refine tk 21 ?_ (hy := by first | exact yRc (fun w' h => h.frame.cell G1.out) | (refine Or.inr ⟨by rfl, ?_⟩; rfl))
              (try simp only [Act.put, List.setIfInBounds_toArray, List.set_cons_zero, List.set_cons_succ])
              refine tk 22 ?_
              (try simp only [Act.put, List.setIfInBounds_toArray, List.set_cons_zero, List.set_cons_succ])
              refine tk 23 ?_
              (try simp only [Act.put, List.setIfInBounds_toArray, List.set_cons_zero, List.set_cons_succ])
              refine tk 24 ?_
              (try simp only [Act.put, List.setIfInBounds_toArray, List.set_cons_zero, List.set_cons_succ])
              refine wpAnyH_done (by kernel_rfl) ?_ _
              refine NoPanic.normal ?_
              go_wp2
              go_roundw
              case rel => exact ⟨_, by omega, by go_num, range_all_succ HA.out R.out, S⟩
              case measure => simp [intOf]; omega
          · have hm : m < ks.length := by omega
            obtain ⟨ad0, e0, g0⟩ := row_int_at h14 m hm
            cases e0
            have PV := Lib.hid (prevK_succ hm)
            obtain ⟨p, hpv⟩ : ∃ p, ks[m] = p := ⟨_, rfl⟩
            rw [hpv] at g0 PV
            have G0 := Lib.hid g0
            rw [PV.out] at KA PP
            clear g0 g1 hpv
            have q0 : (0 : Int) ≤ (m : Int) := Int.natCast_nonneg _
            have q1 : (m : Int) < (ks.length : Int) := by omega
            have q2 : (m : Int) + 1 < (ks.length : Int) := by omega
            have q3 : (0 : Int) ≤ (m : Int) + 1 := by omega
            have w1 : IntKind.i64.wrap ((m : Int) + 1 - 1) = (m : Int) := by rw [Int.add_sub_cancel]; exact IntWalk.i64_in _ (by omega)
            have w2 : IntKind.i64.wrap (m : Int) = (m : Int) := IntWalk.i64_in _ (by omega)
            have d0 : decide ((0 : Int) < (m : Int) + 1) = true := decide_eq_true (by omega)
            cases x1 : decide (1 ≤ x ∧ x ≤ 90) with
            | false =>
              have X1 := Lib.hid x1
              have R := Lib.hid (show knOk ks = false from KB.out (by rw [KA.out]; have := PP.out; simp at x1 ⊢; omega))
              clear x1
              go_wp2_with (first | ((with_reducible refine gate_box rfl ?_); refine aBx S ?_; clear S; intro g9 w9 z9 S) | ((with_reducible refine gate_alloc rfl ?_); refine aAl S ?_; clear S; intro g9 w9 z9 S) | ((with_reducible refine gate_load rfl ?_); first | refine aLd S ?_ | refine aPt S ?_ | refine aL1 S ?_) | ((with_reducible refine gate_st rfl ?_); (first | refine aS1 S ?_ | refine aSt S ?_ | refine aSp S ?_); clear S; intro w9 S))
              have S0 := S
              refine wp_region_noPanic ?_
              refine wp_region_held_drew (S := Sep _ _ _) (by kernel_rfl) S0.drew (fun _ => ?_)
              replace S := S.drew
              clear S0
              refine tk 0 ?_
              (try simp only [Act.put, List.setIfInBounds_toArray, List.set_cons_zero, List.set_cons_succ])
              refine tk 1 ?_
              (try simp only [Act.put, List.setIfInBounds_toArray, List.set_cons_zero, List.set_cons_succ])
              refine tk 2 ?_
              (try simp only [Act.put, List.setIfInBounds_toArray, List.set_cons_zero, List.set_cons_succ])
              refine tk 3 ?_
              (try simp only [Act.put, List.setIfInBounds_toArray, List.set_cons_zero, List.set_cons_succ])
              refine tk 4 ?_ (hy := by exact yRc (fun w' h => h.frame.cell G1.out))
              (try simp only [Act.put, List.setIfInBounds_toArray, List.set_cons_zero, List.set_cons_succ])
              refine rdy1 5 (fun K hK => ?_)
              go_simp; (skip; go_at_call 61; (with_reducible refine (l6In_e _ x 1 90 X1.out).mono ?_); rintro e w9 ⟨rfl, rfl⟩)
              (first | refine hK.out _ _ (S.sub subA) (fun _ => ?_) | (go_wp2_with fail; refine hK.out _ _ (S.sub subA) (fun _ => ?_)))
              clear hK K
              (try simp only [Act.put, List.setIfInBounds_toArray, List.set_cons_zero, List.set_cons_succ])
              refine tk 6 ?_
              (try simp only [Act.put, List.setIfInBounds_toArray, List.set_cons_zero, List.set_cons_succ])
              refine tk 7 ?_
              (try simp only [Act.put, List.setIfInBounds_toArray, List.set_cons_zero, List.set_cons_succ])
              refine tk 8 ?_
              (try simp only [Act.put, List.setIfInBounds_toArray, List.set_cons_zero, List.set_cons_succ])
              refine tk 9 ?_
              (try simp only [Act.put, List.setIfInBounds_toArray, List.set_cons_zero, List.set_cons_succ])
              refine tk 10 ?_
              (try simp only [Act.put, List.setIfInBounds_toArray, List.set_cons_zero, List.set_cons_succ])
              refine tk 11 ?_
              (try simp only [Act.put, List.setIfInBounds_toArray, List.set_cons_zero, List.set_cons_succ])
              refine tk 12 ?_
              (try simp only [Act.put, List.setIfInBounds_toArray, List.set_cons_zero, List.set_cons_succ])
              refine tk 13 ?_
              (try simp only [Act.put, List.setIfInBounds_toArray, List.set_cons_zero, List.set_cons_succ])
              refine tk 14 ?_
              (try simp only [Act.put, List.setIfInBounds_toArray, List.set_cons_zero, List.set_cons_succ])
              refine tk 15 ?_
              (try simp only [Act.put, List.setIfInBounds_toArray, List.set_cons_zero, List.set_cons_succ])
              refine tk 16 ?_ (hy := by first | exact yRc (fun w' h => h.frame.cell G0.out) | (refine Or.inr ⟨by rfl, ?_⟩; rfl))
              (try simp only [Act.put, List.setIfInBounds_toArray, List.set_cons_zero, List.set_cons_succ])
              refine tk 17 ?_
              (try simp only [Act.put, List.setIfInBounds_toArray, List.set_cons_zero, List.set_cons_succ])
              refine tk 18 ?_
              (try simp only [Act.put, List.setIfInBounds_toArray, List.set_cons_zero, List.set_cons_succ])
              refine tk 19 ?_
              (try simp only [Act.put, List.setIfInBounds_toArray, List.set_cons_zero, List.set_cons_succ])
              refine tk 20 ?_
              (try simp only [Act.put, List.setIfInBounds_toArray, List.set_cons_zero, List.set_cons_succ])
              refine tk 21 ?_ (hy := by first | exact yRc (fun w' h => h.frame.cell G1.out) | (refine Or.inr ⟨by rfl, ?_⟩; rfl))
              (try simp only [Act.put, List.setIfInBounds_toArray, List.set_cons_zero, List.set_cons_succ])
              refine tk 22 ?_
              (try simp only [Act.put, List.setIfInBounds_toArray, List.set_cons_zero, List.set_cons_succ])
              refine tk 23 ?_
              (try simp only [Act.put, List.setIfInBounds_toArray, List.set_cons_zero, List.set_cons_succ])
              refine tk 24 ?_
              (try simp only [Act.put, List.setIfInBounds_toArray, List.set_cons_zero, List.set_cons_succ])
              refine wpAnyH_done (by kernel_rfl) ?_ _
              refine NoPanic.normal ?_
              go_wp2
              go_ret
              exact ⟨ret_bool (by rw [R1.out, R.out]), S.frame⟩
            | true =>
              have X1 := Lib.hid x1
              by_cases x2 : x ≤ p
              · have R := Lib.hid (show knOk ks = false from KB.out (by rw [KA.out]; simp at x1 ⊢; omega))
                have d2 : decide (x ≤ p) = true := decide_eq_true x2
                clear x1 x2
                go_wp2_with (first | ((with_reducible refine gate_box rfl ?_); refine aBx S ?_; clear S; intro g9 w9 z9 S) | ((with_reducible refine gate_alloc rfl ?_); refine aAl S ?_; clear S; intro g9 w9 z9 S) | ((with_reducible refine gate_load rfl ?_); first | refine aLd S ?_ | refine aPt S ?_ | refine aL1 S ?_) | ((with_reducible refine gate_st rfl ?_); (first | refine aS1 S ?_ | refine aSt S ?_ | refine aSp S ?_); clear S; intro w9 S))
                have S0 := S
                refine wp_region_noPanic ?_
                refine wp_region_held_drew (S := Sep _ _ _) (by kernel_rfl) S0.drew (fun _ => ?_)
                replace S := S.drew
                clear S0
                refine tk 0 ?_
                (try simp only [Act.put, List.setIfInBounds_toArray, List.set_cons_zero, List.set_cons_succ])
                refine tk 1 ?_
                (try simp only [Act.put, List.setIfInBounds_toArray, List.set_cons_zero, List.set_cons_succ])
                refine tk 2 ?_
                (try simp only [Act.put, List.setIfInBounds_toArray, List.set_cons_zero, List.set_cons_succ])
                refine tk 3 ?_
                (try simp only [Act.put, List.setIfInBounds_toArray, List.set_cons_zero, List.set_cons_succ])
                refine tk 4 ?_ (hy := by exact yRc (fun w' h => h.frame.cell G1.out))
                (try simp only [Act.put, List.setIfInBounds_toArray, List.set_cons_zero, List.set_cons_succ])
                refine rdy1 5 (fun K hK => ?_)
                go_simp; (skip; go_at_call 61; (with_reducible refine (l6In_e _ x 1 90 X1.out).mono ?_); rintro e w9 ⟨rfl, rfl⟩)
                (first | refine hK.out _ _ (S.sub subA) (fun _ => ?_) | (go_wp2_with fail; refine hK.out _ _ (S.sub subA) (fun _ => ?_)))
                clear hK K
                (try simp only [Act.put, List.setIfInBounds_toArray, List.set_cons_zero, List.set_cons_succ])
                refine tk 6 ?_
                (try simp only [Act.put, List.setIfInBounds_toArray, List.set_cons_zero, List.set_cons_succ])
                refine tk 7 ?_
                (try simp only [Act.put, List.setIfInBounds_toArray, List.set_cons_zero, List.set_cons_succ])
                refine tk 8 ?_
                (try simp only [Act.put, List.setIfInBounds_toArray, List.set_cons_zero, List.set_cons_succ])
                refine tk 9 ?_
                (try simp only [Act.put, List.setIfInBounds_toArray, List.set_cons_zero, List.set_cons_succ])
                refine tk 10 ?_
                (try simp only [Act.put, List.setIfInBounds_toArray, List.set_cons_zero, List.set_cons_succ])
                refine tk 11 ?_
                (try simp only [Act.put, List.setIfInBounds_toArray, List.set_cons_zero, List.set_cons_succ])
                refine tk 12 ?_
                (try simp only [Act.put, List.setIfInBounds_toArray, List.set_cons_zero, List.set_cons_succ])
                refine tk 13 ?_
                (try simp only [Act.put, List.setIfInBounds_toArray, List.set_cons_zero, List.set_cons_succ])
                refine tk 14 ?_
                (try simp only [Act.put, List.setIfInBounds_toArray, List.set_cons_zero, List.set_cons_succ])
                refine tk 15 ?_
                (try simp only [Act.put, List.setIfInBounds_toArray, List.set_cons_zero, List.set_cons_succ])
                refine tk 16 ?_ (hy := by first | exact yRc (fun w' h => h.frame.cell G0.out) | (refine Or.inr ⟨by rfl, ?_⟩; rfl))
                (try simp only [Act.put, List.setIfInBounds_toArray, List.set_cons_zero, List.set_cons_succ])
                refine tk 17 ?_
                (try simp only [Act.put, List.setIfInBounds_toArray, List.set_cons_zero, List.set_cons_succ])
                refine tk 18 ?_
                (try simp only [Act.put, List.setIfInBounds_toArray, List.set_cons_zero, List.set_cons_succ])
                refine tk 19 ?_
                (try simp only [Act.put, List.setIfInBounds_toArray, List.set_cons_zero, List.set_cons_succ])
                refine tk 20 ?_
                (try simp only [Act.put, List.setIfInBounds_toArray, List.set_cons_zero, List.set_cons_succ])
                refine tk 21 ?_ (hy := by first | exact yRc (fun w' h => h.frame.cell G1.out) | (refine Or.inr ⟨by rfl, ?_⟩; rfl))
                (try simp only [Act.put, List.setIfInBounds_toArray, List.set_cons_zero, List.set_cons_succ])
                refine tk 22 ?_
                (try simp only [Act.put, List.setIfInBounds_toArray, List.set_cons_zero, List.set_cons_succ])
                refine tk 23 ?_
                (try simp only [Act.put, List.setIfInBounds_toArray, List.set_cons_zero, List.set_cons_succ])
                refine tk 24 ?_
                (try simp only [Act.put, List.setIfInBounds_toArray, List.set_cons_zero, List.set_cons_succ])
                refine wpAnyH_done (by kernel_rfl) ?_ _
                refine NoPanic.normal ?_
                go_wp2
                go_ret
                exact ⟨ret_bool (by rw [R1.out, R.out]), S.frame⟩
              · have R := Lib.hid (show kAt ks (m + 1) = true by rw [KA.out]; simp at x1 ⊢; omega)
                have d2 : decide (x ≤ p) = false := decide_eq_false x2
                clear x1 x2
                go_wp2_with (first | ((with_reducible refine gate_box rfl ?_); refine aBx S ?_; clear S; intro g9 w9 z9 S) | ((with_reducible refine gate_alloc rfl ?_); refine aAl S ?_; clear S; intro g9 w9 z9 S) | ((with_reducible refine gate_load rfl ?_); first | refine aLd S ?_ | refine aPt S ?_ | refine aL1 S ?_) | ((with_reducible refine gate_st rfl ?_); (first | refine aS1 S ?_ | refine aSt S ?_ | refine aSp S ?_); clear S; intro w9 S))
                have S0 := S
                refine wp_region_noPanic ?_
                refine wp_region_held_drew (S := Sep _ _ _) (by kernel_rfl) S0.drew (fun _ => ?_)
                replace S := S.drew
                clear S0
                refine tk 0 ?_
                (try simp only [Act.put, List.setIfInBounds_toArray, List.set_cons_zero, List.set_cons_succ])
                refine tk 1 ?_
                (try simp only [Act.put, List.setIfInBounds_toArray, List.set_cons_zero, List.set_cons_succ])
                refine tk 2 ?_
                (try simp only [Act.put, List.setIfInBounds_toArray, List.set_cons_zero, List.set_cons_succ])
                refine tk 3 ?_
                (try simp only [Act.put, List.setIfInBounds_toArray, List.set_cons_zero, List.set_cons_succ])
                refine tk 4 ?_ (hy := by exact yRc (fun w' h => h.frame.cell G1.out))
                (try simp only [Act.put, List.setIfInBounds_toArray, List.set_cons_zero, List.set_cons_succ])
                refine rdy1 5 (fun K hK => ?_)
                go_simp; (skip; go_at_call 61; (with_reducible refine (l6In_e _ x 1 90 X1.out).mono ?_); rintro e w9 ⟨rfl, rfl⟩)
                (first | refine hK.out _ _ (S.sub subA) (fun _ => ?_) | (go_wp2_with fail; refine hK.out _ _ (S.sub subA) (fun _ => ?_)))
                clear hK K
                (try simp only [Act.put, List.setIfInBounds_toArray, List.set_cons_zero, List.set_cons_succ])
                refine tk 6 ?_
                (try simp only [Act.put, List.setIfInBounds_toArray, List.set_cons_zero, List.set_cons_succ])
                refine tk 7 ?_
                (try simp only [Act.put, List.setIfInBounds_toArray, List.set_cons_zero, List.set_cons_succ])
                refine tk 8 ?_
                (try simp only [Act.put, List.setIfInBounds_toArray, List.set_cons_zero, List.set_cons_succ])
                refine tk 9 ?_
                (try simp only [Act.put, List.setIfInBounds_toArray, List.set_cons_zero, List.set_cons_succ])
                refine tk 10 ?_
                (try simp only [Act.put, List.setIfInBounds_toArray, List.set_cons_zero, List.set_cons_succ])
                refine tk 11 ?_
                (try simp only [Act.put, List.setIfInBounds_toArray, List.set_cons_zero, List.set_cons_succ])
                refine tk 12 ?_
                (try simp only [Act.put, List.setIfInBounds_toArray, List.set_cons_zero, List.set_cons_succ])
                refine tk 13 ?_
                (try simp only [Act.put, List.setIfInBounds_toArray, List.set_cons_zero, List.set_cons_succ])
                refine tk 14 ?_
                (try simp only [Act.put, List.setIfInBounds_toArray, List.set_cons_zero, List.set_cons_succ])
                refine tk 15 ?_
                (try simp only [Act.put, List.setIfInBounds_toArray, List.set_cons_zero, List.set_cons_succ])
                refine tk 16 ?_ (hy := by first | exact yRc (fun w' h => h.frame.cell G0.out) | (refine Or.inr ⟨by rfl, ?_⟩; rfl))
                (try simp only [Act.put, List.setIfInBounds_toArray, List.set_cons_zero, List.set_cons_succ])
                refine tk 17 ?_
                (try simp only [Act.put, List.setIfInBounds_toArray, List.set_cons_zero, List.set_cons_succ])
                refine tk 18 ?_
                (try simp only [Act.put, List.setIfInBounds_toArray, List.set_cons_zero, List.set_cons_succ])
                refine tk 19 ?_
                (try simp only [Act.put, List.setIfInBounds_toArray, List.set_cons_zero, List.set_cons_succ])
                refine tk 20 ?_
                (try simp only [Act.put, List.setIfInBounds_toArray, List.set_cons_zero, List.set_cons_succ])
                refine tk 21 ?_ (hy := by first | exact yRc (fun w' h => h.frame.cell G1.out) | (refine Or.inr ⟨by rfl, ?_⟩; rfl))
                (try simp only [Act.put, List.setIfInBounds_toArray, List.set_cons_zero, List.set_cons_succ])
                refine tk 22 ?_
                (try simp only [Act.put, List.setIfInBounds_toArray, List.set_cons_zero, List.set_cons_succ])
                refine tk 23 ?_
                (try simp only [Act.put, List.setIfInBounds_toArray, List.set_cons_zero, List.set_cons_succ])
                refine tk 24 ?_
                (try simp only [Act.put, List.setIfInBounds_toArray, List.set_cons_zero, List.set_cons_succ])
                refine wpAnyH_done (by kernel_rfl) ?_ _
                refine NoPanic.normal ?_
                go_wp2
                go_roundw
                case rel => exact ⟨_, by omega, by go_num, range_all_succ HA.out R.out, S⟩
                case measure => simp [intOf]; omega
        · obtain rfl : k = ks.length := by omega
          have R := Lib.hid (show knOk ks = true from HA.out)
          go_wp2_with (first | ((with_reducible refine gate_box rfl ?_); refine aBx S ?_; clear S; intro g9 w9 z9 S) | ((with_reducible refine gate_alloc rfl ?_); refine aAl S ?_; clear S; intro g9 w9 z9 S) | ((with_reducible refine gate_load rfl ?_); first | refine aLd S ?_ | refine aPt S ?_ | refine aL1 S ?_) | ((with_reducible refine gate_st rfl ?_); (first | refine aS1 S ?_ | refine aSt S ?_ | refine aSp S ?_); clear S; intro w9 S))
          go_ret
          exact ⟨ret_bool (by rw [R1.out, R.out]), S.frame⟩
end Go.Proofs.Ytapdcgjccckjeaa
