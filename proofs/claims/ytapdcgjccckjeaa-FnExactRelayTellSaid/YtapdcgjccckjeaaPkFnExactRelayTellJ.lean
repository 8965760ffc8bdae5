/- The texts LawRelayTell. -/
import Derived.Test.YtapdcgjccckjeaaPkFnExactRelayTellI
namespace Go.Proofs.Ytapdcgjccckjeaa
set_option maxRecDepth 100000
set_option linter.unusedVariables false
set_option linter.unusedSimpArgs false
open Go.RowKit
set_option maxRecDepth 100000 in
set_option maxHeartbeats 6400000 in
theorem FnExactRelayTell_c (w : World) (s : Ch) (c0 : List Value) (h0 : tCh.rd w s c0) (o : St) (c1 : List Value) (h1 : tSt.rd w o c1) (n : Int) (b2 : I64 n) : Calls Try.prog 13 #[.agg c0.toArray, .agg c1.toArray, .int .i64 n] w (Ret (.bool true) w) := by
  have LN0 := Lib.hid (show c0.length = 13 from tCh.len h0)
  have Q0 := Lib.hid h0
  have FIN0 := Lib.hid (fun (W : World) (f : Fr w W) => tCh.fr f Q0.out)
  clear h0
  have LN1 := Lib.hid (show c1.length = 7 from tSt.len h1)
  have Q1 := Lib.hid h1
  have FIN1 := Lib.hid (fun (W : World) (f : Fr w W) => tSt.fr f Q1.out)
  clear h1
  have B2 := Lib.hid b2
  clear b2
  have S := Sep.start w
  by_cases e0 : cntCh s ≤ 1048576
  case neg =>
    have s0 := Lib.hid (szr_no (l := 1048576) (n := cntCh s) (by omega))
    clear e0
    go_enter Try.func13, Try.ntmps13
    go_wp2_with (first | (go_at_call 32; (with_reducible refine (szChain_c _ s _ (1048576) (FIN0.out _ S.frame) (by omega) (by omega)).mono ?_); rintro e w9 ⟨rfl, f9⟩; rw [s0.out]; replace S := S.fr f9; clear f9) | (go_at_call 50; (with_reducible refine (szState_c _ o _ (1048576 - (cntCh s : Int)) (FIN1.out _ S.frame) (by omega) (by omega)).mono ?_); rintro e w9 ⟨rfl, f9⟩; rw [s1.out]; replace S := S.fr f9; clear f9) | ((with_reducible refine gate_box rfl ?_); refine aBx S ?_; clear S; intro g9 w9 z9 S) | ((with_reducible refine gate_alloc rfl ?_); refine aAl S ?_; clear S; intro g9 w9 z9 S) | ((with_reducible refine gate_load rfl ?_); first | refine aLd S ?_ | refine aPt S ?_ | refine aL1 S ?_) | ((with_reducible refine gate_st rfl ?_); (first | refine aS1 S ?_ | refine aSt S ?_ | refine aSp S ?_); clear S; intro w9 S))
    go_ret
    exact ⟨rfl, S.frame⟩
  have s0 := Lib.hid (szr_yes (l := 1048576) (n := cntCh s) (by omega))
  have HM0 := Lib.hid (show cntCh s ≤ 1048576 by omega)
  have z0 : (cntCh s : Int) ≤ 1048576 := by omega
  have t0 : decide (1048576 - (cntCh s : Int) < 0) = false := decide_eq_false (by omega)
  by_cases e1 : (cntSt o : Int) ≤ 1048576 - (cntCh s : Int)
  case neg =>
    have s1 := Lib.hid (szr_no (l := 1048576 - (cntCh s : Int)) (n := cntSt o) (by omega))
    clear e0 e1
    go_enter Try.func13, Try.ntmps13
    go_wp2_with (first | (go_at_call 32; (with_reducible refine (szChain_c _ s _ (1048576) (FIN0.out _ S.frame) (by omega) (by omega)).mono ?_); rintro e w9 ⟨rfl, f9⟩; rw [s0.out]; replace S := S.fr f9; clear f9) | (go_at_call 50; (with_reducible refine (szState_c _ o _ (1048576 - (cntCh s : Int)) (FIN1.out _ S.frame) (by omega) (by omega)).mono ?_); rintro e w9 ⟨rfl, f9⟩; rw [s1.out]; replace S := S.fr f9; clear f9) | ((with_reducible refine gate_box rfl ?_); refine aBx S ?_; clear S; intro g9 w9 z9 S) | ((with_reducible refine gate_alloc rfl ?_); refine aAl S ?_; clear S; intro g9 w9 z9 S) | ((with_reducible refine gate_load rfl ?_); first | refine aLd S ?_ | refine aPt S ?_ | refine aL1 S ?_) | ((with_reducible refine gate_st rfl ?_); (first | refine aS1 S ?_ | refine aSt S ?_ | refine aSp S ?_); clear S; intro w9 S))
    go_ret
    exact ⟨rfl, S.frame⟩
  have s1 := Lib.hid (szr_yes (l := 1048576 - (cntCh s : Int)) (n := cntSt o) (by omega))
  have HM1 := Lib.hid (show cntSt o ≤ 1048576 by omega)
  have z1 : (cntSt o : Int) ≤ 1048576 - (cntCh s : Int) := by omega
  have t1 : decide (1048576 - (cntCh s : Int) - (cntSt o : Int) < 0) = false := decide_eq_false (by omega)
  have m0 : (cntMCh s : Int) ≤ 100000000 := by have := cntMCh_le HM0.out; omega
  have m1 : (cntMSt o : Int) ≤ 100000000 := by have := cntMSt_le2 HM1.out; omega
  have tm : decide ((1 : Int) + (cntMCh s : Int) + (cntMSt o : Int) < 0) = false := decide_eq_false (by omega)
  obtain ⟨x, ok, hR⟩ : ∃ x ok, tellV s o n = (x, ok) := ⟨_, _, rfl⟩
  have HX := Lib.hid (tellV_small hR)
  have HR := Lib.hid hR
  have tx : decide ((1 : Int) + (cntMCh x : Int) < 0) = false := decide_eq_false (by omega)
  clear hR
  clear e0 e1
  go_enter Try.func13, Try.ntmps13
  go_wp2_with (first | (go_at_call 32; (with_reducible refine (szChain_c _ s _ (1048576) (FIN0.out _ S.frame) (by omega) (by omega)).mono ?_); rintro e w9 ⟨rfl, f9⟩; rw [s0.out]; replace S := S.fr f9; clear f9) | (go_at_call 50; (with_reducible refine (szState_c _ o _ (1048576 - (cntCh s : Int)) (FIN1.out _ S.frame) (by omega) (by omega)).mono ?_); rintro e w9 ⟨rfl, f9⟩; rw [s1.out]; replace S := S.fr f9; clear f9) | ((with_reducible refine gate_box rfl ?_); refine aBx S ?_; clear S; intro g9 w9 z9 S) | ((with_reducible refine gate_alloc rfl ?_); refine aAl S ?_; clear S; intro g9 w9 z9 S) | ((with_reducible refine gate_load rfl ?_); first | refine aLd S ?_ | refine aPt S ?_ | refine aL1 S ?_) | ((with_reducible refine gate_st rfl ?_); (first | refine aS1 S ?_ | refine aSt S ?_ | refine aSp S ?_); clear S; intro w9 S))
  have S0 := S
  refine wp_region_noPanic ?_
  refine wp_region_held_drew (S := Sep _ _ _) (by kernel_rfl) S0.drew (fun _ => ?_)
  replace S := S.drew
  clear S0
  refine tk 0 ?_
  (try simp only [Act.put, List.setIfInBounds_toArray, List.set_cons_zero, List.set_cons_succ])
  refine tk 2 ?_
  (try simp only [Act.put, List.setIfInBounds_toArray, List.set_cons_zero, List.set_cons_succ])
  refine tk 4 ?_
  (try simp only [Act.put, List.setIfInBounds_toArray, List.set_cons_zero, List.set_cons_succ])
  refine rdys [1, 9] ?_
  refine rdc 1 (fun K hK => ?_) ?_
  · go_simp; (skip; go_at_call 34; (with_reducible refine (toChain_c _ s _ (FIN0.out _ S.frame) HM0.out).mono ?_); rintro e w9 ⟨cs9, F9, rfl, h9, n9, b9, f9⟩; replace S := S.new (aOwn tCh _ cs9 F9) h9 n9 b9 f9; clear h9 n9 b9 f9)
    (first | refine hK.out _ _ (S.sub subA) (fun _ => ?_) | (go_wp2_with fail; refine hK.out _ _ (S.sub subA) (fun _ => ?_)))
    clear hK K
    (try simp only [Act.put, List.setIfInBounds_toArray, List.set_cons_zero, List.set_cons_succ])
    refine rdys [3, 9] ?_
    refine rdc 3 (fun K hK => ?_) ?_
    · go_simp; (skip; go_at_call 52; (with_reducible refine (toState_c _ o _ (FIN1.out _ S.frame) HM1.out).mono ?_); rintro e w9 ⟨cs9, F9, rfl, h9, n9, b9, f9⟩; replace S := S.new (aOwn tSt _ cs9 F9) h9 n9 b9 f9; clear h9 n9 b9 f9)
      (first | refine hK.out _ _ (S.sub subA) (fun _ => ?_) | (go_wp2_with fail; refine hK.out _ _ (S.sub subA) (fun _ => ?_)))
      clear hK K
      (try simp only [Act.put, List.setIfInBounds_toArray, List.set_cons_zero, List.set_cons_succ])
      refine rdys [5, 9] ?_
      refine rdc 5 (fun K hK => ?_) ?_
      · go_simp; (skip; go_at_call 54; (with_reducible refine (sRelayTell_e _ s o _ _ (by first | exact S.rd memA | exact S.rdIn memA) (by first | exact S.rd memA | exact S.rdIn memA) n B2.out HR.out).mono ?_); rintro e w9 ⟨cs9, F9, rfl, h9, n9, b9, f9⟩; replace S := S.new (aOwn tCh _ cs9 F9) h9 n9 b9 f9; clear h9 n9 b9 f9)
        (first | refine hK.out _ _ (S.sub subA) (fun _ => ?_) | (go_wp2_with fail; refine hK.out _ _ (S.sub subA) (fun _ => ?_)))
        clear hK K
        (try simp only [Act.put, List.setIfInBounds_toArray, List.set_cons_zero, List.set_cons_succ])
        refine tk 6 ?_
        (try simp only [Act.put, List.setIfInBounds_toArray, List.set_cons_zero, List.set_cons_succ])
        refine tk 7 ?_
        (try simp only [Act.put, List.setIfInBounds_toArray, List.set_cons_zero, List.set_cons_succ])
        refine tk 8 ?_
        (try simp only [Act.put, List.setIfInBounds_toArray, List.set_cons_zero, List.set_cons_succ])
        refine rdy1 9 (fun K hK => ?_)
        refine rgAl S ?_; clear S; intro g9 w9 z9 S
        (first | refine hK.out _ _ (S.sub subA) (fun _ => ?_) | (go_wp2_with fail; refine hK.out _ _ (S.sub subA) (fun _ => ?_)))
        clear hK K
        (try simp only [Act.put, List.setIfInBounds_toArray, List.set_cons_zero, List.set_cons_succ])
        refine rdy1 10 (fun K hK => ?_)
        (first | refine rgS1 S ?_ | refine rgSt S ?_ | refine rgSp S ?_); clear S; intro w9 S
        (first | refine hK.out _ _ (S.sub subA) (fun _ => ?_) | (go_wp2_with fail; refine hK.out _ _ (S.sub subA) (fun _ => ?_)))
        clear hK K
        (try simp only [Act.put, List.setIfInBounds_toArray, List.set_cons_zero, List.set_cons_succ])
        refine tk 11 ?_
        (try simp only [Act.put, List.setIfInBounds_toArray, List.set_cons_zero, List.set_cons_succ])
        refine wpAnyH_done (by kernel_rfl) ?_ _
        refine NoPanic.normal ?_
        go_wp2_with (first | (go_at_call 34; (with_reducible refine (toChain_c _ s _ (FIN0.out _ S.frame) HM0.out).mono ?_); rintro e w9 ⟨cs9, F9, rfl, h9, n9, b9, f9⟩; replace S := S.new (aOwn tCh _ cs9 F9) h9 n9 b9 f9; clear h9 n9 b9 f9) | (go_at_call 52; (with_reducible refine (toState_c _ o _ (FIN1.out _ S.frame) HM1.out).mono ?_); rintro e w9 ⟨cs9, F9, rfl, h9, n9, b9, f9⟩; replace S := S.new (aOwn tSt _ cs9 F9) h9 n9 b9 f9; clear h9 n9 b9 f9) | (go_at_call 55; (with_reducible refine (RelayTell_e _ s o _ _ (by first | exact S.rd memA | exact S.rdIn memA) (by first | exact S.rd memA | exact S.rdIn memA) n B2.out HR.out).mono ?_); rintro e w9 ⟨cs9, F9, rfl, h9, n9, b9, f9⟩; replace S := S.new (aOwn tCh _ cs9 F9) h9 n9 b9 f9; clear h9 n9 b9 f9) | (go_at_call 24; (with_reducible refine (eqChain_c _ x _ _ (by first | exact S.rd memA | exact S.rdIn memA) (by first | exact S.rd memA | exact S.rdIn memA)).mono ?_); rintro e w9 ⟨rfl, f9⟩; replace S := S.fr f9; clear f9) | ((with_reducible refine gate_box rfl ?_); refine aBx S ?_; clear S; intro g9 w9 z9 S) | ((with_reducible refine gate_alloc rfl ?_); refine aAl S ?_; clear S; intro g9 w9 z9 S) | ((with_reducible refine gate_load rfl ?_); first | refine aLd S ?_ | refine aPt S ?_ | refine aL1 S ?_) | ((with_reducible refine gate_st rfl ?_); (first | refine aS1 S ?_ | refine aSt S ?_ | refine aSp S ?_); clear S; intro w9 S))
        have S0 := S
        refine wp_region_noPanic ?_
        refine wp_region_held_drew (S := Sep _ _ _) (by kernel_rfl) S0.drew (fun _ => ?_)
        replace S := S.drew
        clear S0
        refine tk 0 ?_
        (try simp only [Act.put, List.setIfInBounds_toArray, List.set_cons_zero, List.set_cons_succ])
        refine tk 1 ?_
        (try simp only [Act.put, List.setIfInBounds_toArray, List.set_cons_zero, List.set_cons_succ])
        refine rdy1 2 (fun K hK => ?_)
        go_simp; (skip; go_at_call 34; (with_reducible refine (toChain_c _ s _ (FIN0.out _ S.frame) HM0.out).mono ?_); rintro e w9 ⟨cs9, F9, rfl, h9, n9, b9, f9⟩; replace S := S.new (aOwn tCh _ cs9 F9) h9 n9 b9 f9; clear h9 n9 b9 f9)
        (first | refine hK.out _ _ (S.sub subA) (fun _ => ?_) | (go_wp2_with fail; refine hK.out _ _ (S.sub subA) (fun _ => ?_)))
        clear hK K
        (try simp only [Act.put, List.setIfInBounds_toArray, List.set_cons_zero, List.set_cons_succ])
        refine rdy1 3 (fun K hK => ?_)
        go_simp; (skip; go_at_call 24; (with_reducible refine (eqChain_c _ s _ _ (by first | exact S.rd memA | exact S.rdIn memA) (by first | exact S.rd memA | exact S.rdIn memA)).mono ?_); rintro e w9 ⟨rfl, f9⟩; replace S := S.fr f9; clear f9)
        (first | refine hK.out _ _ (S.sub subA) (fun _ => ?_) | (go_wp2_with fail; refine hK.out _ _ (S.sub subA) (fun _ => ?_)))
        clear hK K
        (try simp only [Act.put, List.setIfInBounds_toArray, List.set_cons_zero, List.set_cons_succ])
        refine tk 4 ?_
        (try simp only [Act.put, List.setIfInBounds_toArray, List.set_cons_zero, List.set_cons_succ])
        refine wpAnyH_done (by kernel_rfl) ?_ _
        refine NoPanic.normal ?_
        go_wp2_with (first | ((with_reducible refine gate_box rfl ?_); refine aBx S ?_; clear S; intro g9 w9 z9 S) | ((with_reducible refine gate_alloc rfl ?_); refine aAl S ?_; clear S; intro g9 w9 z9 S) | ((with_reducible refine gate_load rfl ?_); first | refine aLd S ?_ | refine aPt S ?_ | refine aL1 S ?_) | ((with_reducible refine gate_st rfl ?_); (first | refine aS1 S ?_ | refine aSt S ?_ | refine aSp S ?_); clear S; intro w9 S))
        have S0 := S
        refine wp_region_noPanic ?_
        refine wp_region_held_drew (S := Sep _ _ _) (by kernel_rfl) S0.drew (fun _ => ?_)
        replace S := S.drew
        clear S0
        refine tk 0 ?_
        (try simp only [Act.put, List.setIfInBounds_toArray, List.set_cons_zero, List.set_cons_succ])
        refine tk 1 ?_
        (try simp only [Act.put, List.setIfInBounds_toArray, List.set_cons_zero, List.set_cons_succ])
        refine rdy1 2 (fun K hK => ?_)
        go_simp; (skip; go_at_call 52; (with_reducible refine (toState_c _ o _ (FIN1.out _ S.frame) HM1.out).mono ?_); rintro e w9 ⟨cs9, F9, rfl, h9, n9, b9, f9⟩; replace S := S.new (aOwn tSt _ cs9 F9) h9 n9 b9 f9; clear h9 n9 b9 f9)
        (first | refine hK.out _ _ (S.sub subA) (fun _ => ?_) | (go_wp2_with fail; refine hK.out _ _ (S.sub subA) (fun _ => ?_)))
        clear hK K
        (try simp only [Act.put, List.setIfInBounds_toArray, List.set_cons_zero, List.set_cons_succ])
        refine rdy1 3 (fun K hK => ?_)
        go_simp; (skip; go_at_call 43; (with_reducible refine (eqState_c _ o _ _ (by first | exact S.rd memA | exact S.rdIn memA) (by first | exact S.rd memA | exact S.rdIn memA)).mono ?_); rintro e w9 ⟨rfl, f9⟩; replace S := S.fr f9; clear f9)
        (first | refine hK.out _ _ (S.sub subA) (fun _ => ?_) | (go_wp2_with fail; refine hK.out _ _ (S.sub subA) (fun _ => ?_)))
        clear hK K
        (try simp only [Act.put, List.setIfInBounds_toArray, List.set_cons_zero, List.set_cons_succ])
        refine tk 4 ?_
        (try simp only [Act.put, List.setIfInBounds_toArray, List.set_cons_zero, List.set_cons_succ])
        refine wpAnyH_done (by kernel_rfl) ?_ _
        refine NoPanic.normal ?_
        go_wp2_with (first | (go_at_call 25; (with_reducible refine (markChain_b _ s _ _ (1) (cntCh_past HM0.out) (S.both memA) (by omega) (by omega)).mono ?_); rintro e w9 ⟨rfl, h9, c9⟩; replace S := S.putOwn putA h9 c9; clear h9 c9) | (go_at_call 44; (with_reducible refine (markState_b _ o _ _ (1 + (cntMCh s : Int)) (S.both memA) (by omega) (by omega)).mono ?_); rintro e w9 ⟨rfl, h9, c9⟩; replace S := S.putOwn putA h9 c9; clear h9 c9) | (go_at_call 24; (with_reducible refine (eqChain_c _ x _ _ (by first | exact S.rd memA | exact S.rdIn memA) (by first | exact S.rd memA | exact S.rdIn memA)).mono ?_); rintro e w9 ⟨rfl, f9⟩; replace S := S.fr f9; clear f9) | (go_at_call 25; (with_reducible refine (markChain_b _ x _ _ (1) (smallCh_past HX.out) (S.both memA) (by omega) (by omega)).mono ?_); rintro e w9 ⟨rfl, h9, c9⟩; replace S := S.putOwn putA h9 c9; clear h9 c9) | (go_at_call 26; (with_reducible refine (heldChain_c _ x _ 1 (by first | exact S.rd memA | exact S.rdIn memA) HX.out (by omega) (by omega)).mono ?_); rintro e w9 ⟨rfl, f9⟩; replace S := S.fr f9; clear f9) | ((with_reducible refine gate_box rfl ?_); refine aBx S ?_; clear S; intro g9 w9 z9 S) | ((with_reducible refine gate_alloc rfl ?_); refine aAl S ?_; clear S; intro g9 w9 z9 S) | ((with_reducible refine gate_load rfl ?_); first | refine aLd S ?_ | refine aPt S ?_ | refine aL1 S ?_) | ((with_reducible refine gate_st rfl ?_); (first | refine aS1 S ?_ | refine aSt S ?_ | refine aSp S ?_); clear S; intro w9 S))
        have S0 := S
        refine wp_region_noPanic ?_
        refine wp_region_held_drew (S := Sep _ _ _) (by kernel_rfl) S0.drew (fun _ => ?_)
        replace S := S.drew
        clear S0
        refine tk 0 ?_
        (try simp only [Act.put, List.setIfInBounds_toArray, List.set_cons_zero, List.set_cons_succ])
        refine tk 2 ?_
        (try simp only [Act.put, List.setIfInBounds_toArray, List.set_cons_zero, List.set_cons_succ])
        refine tk 4 ?_
        (try simp only [Act.put, List.setIfInBounds_toArray, List.set_cons_zero, List.set_cons_succ])
        refine rdys [1, 9] ?_
        refine rdc 1 (fun K hK => ?_) ?_
        · go_simp; (skip; go_at_call 34; (with_reducible refine (toChain_c _ s _ (FIN0.out _ S.frame) HM0.out).mono ?_); rintro e w9 ⟨cs9, F9, rfl, h9, n9, b9, f9⟩; replace S := S.new (aOwn tCh _ cs9 F9) h9 n9 b9 f9; clear h9 n9 b9 f9)
          (first | refine hK.out _ _ (S.sub subA) (fun _ => ?_) | (go_wp2_with fail; refine hK.out _ _ (S.sub subA) (fun _ => ?_)))
          clear hK K
          (try simp only [Act.put, List.setIfInBounds_toArray, List.set_cons_zero, List.set_cons_succ])
          refine rdys [3, 9] ?_
          refine rdc 3 (fun K hK => ?_) ?_
          · go_simp; (skip; go_at_call 52; (with_reducible refine (toState_c _ o _ (FIN1.out _ S.frame) HM1.out).mono ?_); rintro e w9 ⟨cs9, F9, rfl, h9, n9, b9, f9⟩; replace S := S.new (aOwn tSt _ cs9 F9) h9 n9 b9 f9; clear h9 n9 b9 f9)
            (first | refine hK.out _ _ (S.sub subA) (fun _ => ?_) | (go_wp2_with fail; refine hK.out _ _ (S.sub subA) (fun _ => ?_)))
            clear hK K
            (try simp only [Act.put, List.setIfInBounds_toArray, List.set_cons_zero, List.set_cons_succ])
            refine rdys [5, 9] ?_
            refine rdc 5 (fun K hK => ?_) ?_
            · go_simp; (skip; go_at_call 55; (with_reducible refine (RelayTell_e _ s o _ _ (by first | exact S.rd memA | exact S.rdIn memA) (by first | exact S.rd memA | exact S.rdIn memA) n B2.out HR.out).mono ?_); rintro e w9 ⟨cs9, F9, rfl, h9, n9, b9, f9⟩; replace S := S.new (aOwn tCh _ cs9 F9) h9 n9 b9 f9; clear h9 n9 b9 f9)
              (first | refine hK.out _ _ (S.sub subA) (fun _ => ?_) | (go_wp2_with fail; refine hK.out _ _ (S.sub subA) (fun _ => ?_)))
              clear hK K
              (try simp only [Act.put, List.setIfInBounds_toArray, List.set_cons_zero, List.set_cons_succ])
              refine tk 6 ?_
              (try simp only [Act.put, List.setIfInBounds_toArray, List.set_cons_zero, List.set_cons_succ])
              refine tk 7 ?_
              (try simp only [Act.put, List.setIfInBounds_toArray, List.set_cons_zero, List.set_cons_succ])
              refine tk 8 ?_
              (try simp only [Act.put, List.setIfInBounds_toArray, List.set_cons_zero, List.set_cons_succ])
              refine rdy1 9 (fun K hK => ?_)
              refine rgAl S ?_; clear S; intro g9 w9 z9 S
              (first | refine hK.out _ _ (S.sub subA) (fun _ => ?_) | (go_wp2_with fail; refine hK.out _ _ (S.sub subA) (fun _ => ?_)))
              clear hK K
              (try simp only [Act.put, List.setIfInBounds_toArray, List.set_cons_zero, List.set_cons_succ])
              refine rdy1 10 (fun K hK => ?_)
              (first | refine rgS1 S ?_ | refine rgSt S ?_ | refine rgSp S ?_); clear S; intro w9 S
              (first | refine hK.out _ _ (S.sub subA) (fun _ => ?_) | (go_wp2_with fail; refine hK.out _ _ (S.sub subA) (fun _ => ?_)))
              clear hK K
              (try simp only [Act.put, List.setIfInBounds_toArray, List.set_cons_zero, List.set_cons_succ])
              refine tk 11 ?_
              (try simp only [Act.put, List.setIfInBounds_toArray, List.set_cons_zero, List.set_cons_succ])
              refine wpAnyH_done (by kernel_rfl) ?_ _
              refine NoPanic.normal ?_
              go_wp2_with (first | (go_at_call 24; (with_reducible refine (eqChain_c _ x _ _ (by first | exact S.rd memA | exact S.rdIn memA) (by first | exact S.rd memA | exact S.rdIn memA)).mono ?_); rintro e w9 ⟨rfl, f9⟩; replace S := S.fr f9; clear f9) | (go_at_call 26; (with_reducible refine (heldChain_c _ x _ 1 (by first | exact S.rd memA | exact S.rdIn memA) HX.out (by omega) (by omega)).mono ?_); rintro e w9 ⟨rfl, f9⟩; replace S := S.fr f9; clear f9) | ((with_reducible refine gate_box rfl ?_); refine aBx S ?_; clear S; intro g9 w9 z9 S) | ((with_reducible refine gate_alloc rfl ?_); refine aAl S ?_; clear S; intro g9 w9 z9 S) | ((with_reducible refine gate_load rfl ?_); first | refine aLd S ?_ | refine aPt S ?_ | refine aL1 S ?_) | ((with_reducible refine gate_st rfl ?_); (first | refine aS1 S ?_ | refine aSt S ?_ | refine aSp S ?_); clear S; intro w9 S))
              go_ret
              exact ⟨rfl, S.frame⟩
            refine rdc 9 (fun K hK => ?_) AllReadyH.nil
            refine rgAl S ?_; clear S; intro g9 w9 z9 S
            (first | refine hK.out _ _ (S.sub subA) (fun _ => ?_) | (go_wp2_with fail; refine hK.out _ _ (S.sub subA) (fun _ => ?_)))
            clear hK K
            (try simp only [Act.put, List.setIfInBounds_toArray, List.set_cons_zero, List.set_cons_succ])
            refine rdy1 5 (fun K hK => ?_)
            go_simp; (skip; go_at_call 55; (with_reducible refine (RelayTell_e _ s o _ _ (by first | exact S.rd memA | exact S.rdIn memA) (by first | exact S.rd memA | exact S.rdIn memA) n B2.out HR.out).mono ?_); rintro e w9 ⟨cs9, F9, rfl, h9, n9, b9, f9⟩; replace S := S.new (aOwn tCh _ cs9 F9) h9 n9 b9 f9; clear h9 n9 b9 f9)
            (first | refine hK.out _ _ (S.sub subA) (fun _ => ?_) | (go_wp2_with fail; refine hK.out _ _ (S.sub subA) (fun _ => ?_)))
            clear hK K
            (try simp only [Act.put, List.setIfInBounds_toArray, List.set_cons_zero, List.set_cons_succ])
            refine tk 6 ?_
            (try simp only [Act.put, List.setIfInBounds_toArray, List.set_cons_zero, List.set_cons_succ])
            refine tk 7 ?_
            (try simp only [Act.put, List.setIfInBounds_toArray, List.set_cons_zero, List.set_cons_succ])
            refine tk 8 ?_
            (try simp only [Act.put, List.setIfInBounds_toArray, List.set_cons_zero, List.set_cons_succ])
            refine rdy1 10 (fun K hK => ?_)
            (first | refine rgS1 S ?_ | refine rgSt S ?_ | refine rgSp S ?_); clear S; intro w9 S
            (first | refine hK.out _ _ (S.sub subA) (fun _ => ?_) | (go_wp2_with fail; refine hK.out _ _ (S.sub subA) (fun _ => ?_)))
            clear hK K
            (try simp only [Act.put, List.setIfInBounds_toArray, List.set_cons_zero, List.set_cons_succ])
            refine tk 11 ?_
            (try simp only [Act.put, List.setIfInBounds_toArray, List.set_cons_zero, List.set_cons_succ])
            refine wpAnyH_done (by kernel_rfl) ?_ _
            refine NoPanic.normal ?_
            go_wp2_with (first | (go_at_call 24; (with_reducible refine (eqChain_c _ x _ _ (by first | exact S.rd memA | exact S.rdIn memA) (by first | exact S.rd memA | exact S.rdIn memA)).mono ?_); rintro e w9 ⟨rfl, f9⟩; replace S := S.fr f9; clear f9) | (go_at_call 26; (with_reducible refine (heldChain_c _ x _ 1 (by first | exact S.rd memA | exact S.rdIn memA) HX.out (by omega) (by omega)).mono ?_); rintro e w9 ⟨rfl, f9⟩; replace S := S.fr f9; clear f9) | ((with_reducible refine gate_box rfl ?_); refine aBx S ?_; clear S; intro g9 w9 z9 S) | ((with_reducible refine gate_alloc rfl ?_); refine aAl S ?_; clear S; intro g9 w9 z9 S) | ((with_reducible refine gate_load rfl ?_); first | refine aLd S ?_ | refine aPt S ?_ | refine aL1 S ?_) | ((with_reducible refine gate_st rfl ?_); (first | refine aS1 S ?_ | refine aSt S ?_ | refine aSp S ?_); clear S; intro w9 S))
            go_ret
            exact ⟨rfl, S.frame⟩
          refine rdc 9 (fun K hK => ?_) AllReadyH.nil
          refine rgAl S ?_; clear S; intro g9 w9 z9 S
          (first | refine hK.out _ _ (S.sub subA) (fun _ => ?_) | (go_wp2_with fail; refine hK.out _ _ (S.sub subA) (fun _ => ?_)))
          clear hK K
          (try simp only [Act.put, List.setIfInBounds_toArray, List.set_cons_zero, List.set_cons_succ])
          refine rdy1 3 (fun K hK => ?_)
          go_simp; (skip; go_at_call 52; (with_reducible refine (toState_c _ o _ (FIN1.out _ S.frame) HM1.out).mono ?_); rintro e w9 ⟨cs9, F9, rfl, h9, n9, b9, f9⟩; replace S := S.new (aOwn tSt _ cs9 F9) h9 n9 b9 f9; clear h9 n9 b9 f9)
          (first | refine hK.out _ _ (S.sub subA) (fun _ => ?_) | (go_wp2_with fail; refine hK.out _ _ (S.sub subA) (fun _ => ?_)))
          clear hK K
          (try simp only [Act.put, List.setIfInBounds_toArray, List.set_cons_zero, List.set_cons_succ])
          refine rdy1 5 (fun K hK => ?_)
          go_simp; (skip; go_at_call 55; (with_reducible refine (RelayTell_e _ s o _ _ (by first | exact S.rd memA | exact S.rdIn memA) (by first | exact S.rd memA | exact S.rdIn memA) n B2.out HR.out).mono ?_); rintro e w9 ⟨cs9, F9, rfl, h9, n9, b9, f9⟩; replace S := S.new (aOwn tCh _ cs9 F9) h9 n9 b9 f9; clear h9 n9 b9 f9)
          (first | refine hK.out _ _ (S.sub subA) (fun _ => ?_) | (go_wp2_with fail; refine hK.out _ _ (S.sub subA) (fun _ => ?_)))
          clear hK K
          (try simp only [Act.put, List.setIfInBounds_toArray, List.set_cons_zero, List.set_cons_succ])
          refine tk 6 ?_
          (try simp only [Act.put, List.setIfInBounds_toArray, List.set_cons_zero, List.set_cons_succ])
          refine tk 7 ?_
          (try simp only [Act.put, List.setIfInBounds_toArray, List.set_cons_zero, List.set_cons_succ])
          refine tk 8 ?_
          (try simp only [Act.put, List.setIfInBounds_toArray, List.set_cons_zero, List.set_cons_succ])
          refine rdy1 10 (fun K hK => ?_)
          (first | refine rgS1 S ?_ | refine rgSt S ?_ | refine rgSp S ?_); clear S; intro w9 S
          (first | refine hK.out _ _ (S.sub subA) (fun _ => ?_) | (go_wp2_with fail; refine hK.out _ _ (S.sub subA) (fun _ => ?_)))
          clear hK K
          (try simp only [Act.put, List.setIfInBounds_toArray, List.set_cons_zero, List.set_cons_succ])
          refine tk 11 ?_
          (try simp only [Act.put, List.setIfInBounds_toArray, List.set_cons_zero, List.set_cons_succ])
          refine wpAnyH_done (by kernel_rfl) ?_ _
          refine NoPanic.normal ?_
          go_wp2_with (first | (go_at_call 24; (with_reducible refine (eqChain_c _ x _ _ (by first | exact S.rd memA | exact S.rdIn memA) (by first | exact S.rd memA | exact S.rdIn memA)).mono ?_); rintro e w9 ⟨rfl, f9⟩; replace S := S.fr f9; clear f9) | (go_at_call 26; (with_reducible refine (heldChain_c _ x _ 1 (by first | exact S.rd memA | exact S.rdIn memA) HX.out (by omega) (by omega)).mono ?_); rintro e w9 ⟨rfl, f9⟩; replace S := S.fr f9; clear f9) | ((with_reducible refine gate_box rfl ?_); refine aBx S ?_; clear S; intro g9 w9 z9 S) | ((with_reducible refine gate_alloc rfl ?_); refine aAl S ?_; clear S; intro g9 w9 z9 S) | ((with_reducible refine gate_load rfl ?_); first | refine aLd S ?_ | refine aPt S ?_ | refine aL1 S ?_) | ((with_reducible refine gate_st rfl ?_); (first | refine aS1 S ?_ | refine aSt S ?_ | refine aSp S ?_); clear S; intro w9 S))
          go_ret
          exact ⟨rfl, S.frame⟩
        refine rdc 9 (fun K hK => ?_) AllReadyH.nil
        refine rgAl S ?_; clear S; intro g9 w9 z9 S
        (first | refine hK.out _ _ (S.sub subA) (fun _ => ?_) | (go_wp2_with fail; refine hK.out _ _ (S.sub subA) (fun _ => ?_)))
        clear hK K
        (try simp only [Act.put, List.setIfInBounds_toArray, List.set_cons_zero, List.set_cons_succ])
        refine rdy1 1 (fun K hK => ?_)
        go_simp; (skip; go_at_call 34; (with_reducible refine (toChain_c _ s _ (FIN0.out _ S.frame) HM0.out).mono ?_); rintro e w9 ⟨cs9, F9, rfl, h9, n9, b9, f9⟩; replace S := S.new (aOwn tCh _ cs9 F9) h9 n9 b9 f9; clear h9 n9 b9 f9)
        (first | refine hK.out _ _ (S.sub subA) (fun _ => ?_) | (go_wp2_with fail; refine hK.out _ _ (S.sub subA) (fun _ => ?_)))
        clear hK K
        (try simp only [Act.put, List.setIfInBounds_toArray, List.set_cons_zero, List.set_cons_succ])
        refine rdy1 3 (fun K hK => ?_)
        go_simp; (skip; go_at_call 52; (with_reducible refine (toState_c _ o _ (FIN1.out _ S.frame) HM1.out).mono ?_); rintro e w9 ⟨cs9, F9, rfl, h9, n9, b9, f9⟩; replace S := S.new (aOwn tSt _ cs9 F9) h9 n9 b9 f9; clear h9 n9 b9 f9)
        (first | refine hK.out _ _ (S.sub subA) (fun _ => ?_) | (go_wp2_with fail; refine hK.out _ _ (S.sub subA) (fun _ => ?_)))
        clear hK K
        (try simp only [Act.put, List.setIfInBounds_toArray, List.set_cons_zero, List.set_cons_succ])
        refine rdy1 5 (fun K hK => ?_)
        go_simp; (skip; go_at_call 55; (with_reducible refine (RelayTell_e _ s o _ _ (by first | exact S.rd memA | exact S.rdIn memA) (by first | exact S.rd memA | exact S.rdIn memA) n B2.out HR.out).mono ?_); rintro e w9 ⟨cs9, F9, rfl, h9, n9, b9, f9⟩; replace S := S.new (aOwn tCh _ cs9 F9) h9 n9 b9 f9; clear h9 n9 b9 f9)
        (first | refine hK.out _ _ (S.sub subA) (fun _ => ?_) | (go_wp2_with fail; refine hK.out _ _ (S.sub subA) (fun _ => ?_)))
        clear hK K
        (try simp only [Act.put, List.setIfInBounds_toArray, List.set_cons_zero, List.set_cons_succ])
        refine tk 6 ?_
        (try simp only [Act.put, List.setIfInBounds_toArray, List.set_cons_zero, List.set_cons_succ])
        refine tk 7 ?_
        (try simp only [Act.put, List.setIfInBounds_toArray, List.set_cons_zero, List.set_cons_succ])
        refine tk 8 ?_
        (try simp only [Act.put, List.setIfInBounds_toArray, List.set_cons_zero, List.set_cons_succ])
        refine rdy1 10 (fun K hK => ?_)
        (first | refine rgS1 S ?_ | refine rgSt S ?_ | refine rgSp S ?_); clear S; intro w9 S
        (first | refine hK.out _ _ (S.sub subA) (fun _ => ?_) | (go_wp2_with fail; refine hK.out _ _ (S.sub subA) (fun _ => ?_)))
        clear hK K
        (try simp only [Act.put, List.setIfInBounds_toArray, List.set_cons_zero, List.set_cons_succ])
        refine tk 11 ?_
        (try simp only [Act.put, List.setIfInBounds_toArray, List.set_cons_zero, List.set_cons_succ])
        refine wpAnyH_done (by kernel_rfl) ?_ _
        refine NoPanic.normal ?_
        go_wp2_with (first | (go_at_call 24; (with_reducible refine (eqChain_c _ x _ _ (by first | exact S.rd memA | exact S.rdIn memA) (by first | exact S.rd memA | exact S.rdIn memA)).mono ?_); rintro e w9 ⟨rfl, f9⟩; replace S := S.fr f9; clear f9) | (go_at_call 26; (with_reducible refine (heldChain_c _ x _ 1 (by first | exact S.rd memA | exact S.rdIn memA) HX.out (by omega) (by omega)).mono ?_); rintro e w9 ⟨rfl, f9⟩; replace S := S.fr f9; clear f9) | ((with_reducible refine gate_box rfl ?_); refine aBx S ?_; clear S; intro g9 w9 z9 S) | ((with_reducible refine gate_alloc rfl ?_); refine aAl S ?_; clear S; intro g9 w9 z9 S) | ((with_reducible refine gate_load rfl ?_); first | refine aLd S ?_ | refine aPt S ?_ | refine aL1 S ?_) | ((with_reducible refine gate_st rfl ?_); (first | refine aS1 S ?_ | refine aSt S ?_ | refine aSp S ?_); clear S; intro w9 S))
        go_ret
        exact ⟨rfl, S.frame⟩
      refine rdc 9 (fun K hK => ?_) AllReadyH.nil
      refine rgAl S ?_; clear S; intro g9 w9 z9 S
      (first | refine hK.out _ _ (S.sub subA) (fun _ => ?_) | (go_wp2_with fail; refine hK.out _ _ (S.sub subA) (fun _ => ?_)))
      clear hK K
      (try simp only [Act.put, List.setIfInBounds_toArray, List.set_cons_zero, List.set_cons_succ])
      refine rdy1 5 (fun K hK => ?_)
      go_simp; (skip; go_at_call 54; (with_reducible refine (sRelayTell_e _ s o _ _ (by first | exact S.rd memA | exact S.rdIn memA) (by first | exact S.rd memA | exact S.rdIn memA) n B2.out HR.out).mono ?_); rintro e w9 ⟨cs9, F9, rfl, h9, n9, b9, f9⟩; replace S := S.new (aOwn tCh _ cs9 F9) h9 n9 b9 f9; clear h9 n9 b9 f9)
      (first | refine hK.out _ _ (S.sub subA) (fun _ => ?_) | (go_wp2_with fail; refine hK.out _ _ (S.sub subA) (fun _ => ?_)))
      clear hK K
      (try simp only [Act.put, List.setIfInBounds_toArray, List.set_cons_zero, List.set_cons_succ])
      refine tk 6 ?_
      (try simp only [Act.put, List.setIfInBounds_toArray, List.set_cons_zero, List.set_cons_succ])
      refine tk 7 ?_
      (try simp only [Act.put, List.setIfInBounds_toArray, List.set_cons_zero, List.set_cons_succ])
      refine tk 8 ?_
      (try simp only [Act.put, List.setIfInBounds_toArray, List.set_cons_zero, List.set_cons_succ])
      refine rdy1 10 (fun K hK => ?_)
      (first | refine rgS1 S ?_ | refine rgSt S ?_ | refine rgSp S ?_); clear S; intro w9 S
      (first | refine hK.out _ _ (S.sub subA) (fun _ => ?_) | (go_wp2_with fail; refine hK.out _ _ (S.sub subA) (fun _ => ?_)))
      clear hK K
      (try simp only [Act.put, List.setIfInBounds_toArray, List.set_cons_zero, List.set_cons_succ])
      refine tk 11 ?_
      (try simp only [Act.put, List.setIfInBounds_toArray, List.set_cons_zero, List.set_cons_succ])
      refine wpAnyH_done (by kernel_rfl) ?_ _
      refine NoPanic.normal ?_
      go_wp2_with (first | (go_at_call 34; (with_reducible refine (toChain_c _ s _ (FIN0.out _ S.frame) HM0.out).mono ?_); rintro e w9 ⟨cs9, F9, rfl, h9, n9, b9, f9⟩; replace S := S.new (aOwn tCh _ cs9 F9) h9 n9 b9 f9; clear h9 n9 b9 f9) | (go_at_call 52; (with_reducible refine (toState_c _ o _ (FIN1.out _ S.frame) HM1.out).mono ?_); rintro e w9 ⟨cs9, F9, rfl, h9, n9, b9, f9⟩; replace S := S.new (aOwn tSt _ cs9 F9) h9 n9 b9 f9; clear h9 n9 b9 f9) | (go_at_call 55; (with_reducible refine (RelayTell_e _ s o _ _ (by first | exact S.rd memA | exact S.rdIn memA) (by first | exact S.rd memA | exact S.rdIn memA) n B2.out HR.out).mono ?_); rintro e w9 ⟨cs9, F9, rfl, h9, n9, b9, f9⟩; replace S := S.new (aOwn tCh _ cs9 F9) h9 n9 b9 f9; clear h9 n9 b9 f9) | (go_at_call 24; (with_reducible refine (eqChain_c _ x _ _ (by first | exact S.rd memA | exact S.rdIn memA) (by first | exact S.rd memA | exact S.rdIn memA)).mono ?_); rintro e w9 ⟨rfl, f9⟩; replace S := S.fr f9; clear f9) | ((with_reducible refine gate_box rfl ?_); refine aBx S ?_; clear S; intro g9 w9 z9 S) | ((with_reducible refine gate_alloc rfl ?_); refine aAl S ?_; clear S; intro g9 w9 z9 S) | ((with_reducible refine gate_load rfl ?_); first | refine aLd S ?_ | refine aPt S ?_ | refine aL1 S ?_) | ((with_reducible refine gate_st rfl ?_); (first | refine aS1 S ?_ | refine aSt S ?_ | refine aSp S ?_); clear S; intro w9 S))
      have S0 := S
      refine wp_region_noPanic ?_
      refine wp_region_held_drew (S := Sep _ _ _) (by kernel_rfl) S0.drew (fun _ => ?_)
      replace S := S.drew
      clear S0
      refine tk 0 ?_
      (try simp only [Act.put, List.setIfInBounds_toArray, List.set_cons_zero, List.set_cons_succ])
      refine tk 1 ?_
      (try simp only [Act.put, List.setIfInBounds_toArray, List.set_cons_zero, List.set_cons_succ])
      refine rdy1 2 (fun K hK => ?_)
      go_simp; (skip; go_at_call 34; (with_reducible refine (toChain_c _ s _ (FIN0.out _ S.frame) HM0.out).mono ?_); rintro e w9 ⟨cs9, F9, rfl, h9, n9, b9, f9⟩; replace S := S.new (aOwn tCh _ cs9 F9) h9 n9 b9 f9; clear h9 n9 b9 f9)
      (first | refine hK.out _ _ (S.sub subA) (fun _ => ?_) | (go_wp2_with fail; refine hK.out _ _ (S.sub subA) (fun _ => ?_)))
      clear hK K
      (try simp only [Act.put, List.setIfInBounds_toArray, List.set_cons_zero, List.set_cons_succ])
      refine rdy1 3 (fun K hK => ?_)
      go_simp; (skip; go_at_call 24; (with_reducible refine (eqChain_c _ s _ _ (by first | exact S.rd memA | exact S.rdIn memA) (by first | exact S.rd memA | exact S.rdIn memA)).mono ?_); rintro e w9 ⟨rfl, f9⟩; replace S := S.fr f9; clear f9)
      (first | refine hK.out _ _ (S.sub subA) (fun _ => ?_) | (go_wp2_with fail; refine hK.out _ _ (S.sub subA) (fun _ => ?_)))
      clear hK K
      (try simp only [Act.put, List.setIfInBounds_toArray, List.set_cons_zero, List.set_cons_succ])
      refine tk 4 ?_
      (try simp only [Act.put, List.setIfInBounds_toArray, List.set_cons_zero, List.set_cons_succ])
      refine wpAnyH_done (by kernel_rfl) ?_ _
      refine NoPanic.normal ?_
      go_wp2_with (first | ((with_reducible refine gate_box rfl ?_); refine aBx S ?_; clear S; intro g9 w9 z9 S) | ((with_reducible refine gate_alloc rfl ?_); refine aAl S ?_; clear S; intro g9 w9 z9 S) | ((with_reducible refine gate_load rfl ?_); first | refine aLd S ?_ | refine aPt S ?_ | refine aL1 S ?_) | ((with_reducible refine gate_st rfl ?_); (first | refine aS1 S ?_ | refine aSt S ?_ | refine aSp S ?_); clear S; intro w9 S))
      have S0 := S
      refine wp_region_noPanic ?_
      refine wp_region_held_drew (S := Sep _ _ _) (by kernel_rfl) S0.drew (fun _ => ?_)
      replace S := S.drew
      clear S0
      refine tk 0 ?_
      (try simp only [Act.put, List.setIfInBounds_toArray, List.set_cons_zero, List.set_cons_succ])
      refine tk 1 ?_
      (try simp only [Act.put, List.setIfInBounds_toArray, List.set_cons_zero, List.set_cons_succ])
      refine rdy1 2 (fun K hK => ?_)
      go_simp; (skip; go_at_call 52; (with_reducible refine (toState_c _ o _ (FIN1.out _ S.frame) HM1.out).mono ?_); rintro e w9 ⟨cs9, F9, rfl, h9, n9, b9, f9⟩; replace S := S.new (aOwn tSt _ cs9 F9) h9 n9 b9 f9; clear h9 n9 b9 f9)
      (first | refine hK.out _ _ (S.sub subA) (fun _ => ?_) | (go_wp2_with fail; refine hK.out _ _ (S.sub subA) (fun _ => ?_)))
      clear hK K
      (try simp only [Act.put, List.setIfInBounds_toArray, List.set_cons_zero, List.set_cons_succ])
      refine rdy1 3 (fun K hK => ?_)
      go_simp; (skip; go_at_call 43; (with_reducible refine (eqState_c _ o _ _ (by first | exact S.rd memA | exact S.rdIn memA) (by first | exact S.rd memA | exact S.rdIn memA)).mono ?_); rintro e w9 ⟨rfl, f9⟩; replace S := S.fr f9; clear f9)
      (first | refine hK.out _ _ (S.sub subA) (fun _ => ?_) | (go_wp2_with fail; refine hK.out _ _ (S.sub subA) (fun _ => ?_)))
      clear hK K
      (try simp only [Act.put, List.setIfInBounds_toArray, List.set_cons_zero, List.set_cons_succ])
      refine tk 4 ?_
      (try simp only [Act.put, List.setIfInBounds_toArray, List.set_cons_zero, List.set_cons_succ])
      refine wpAnyH_done (by kernel_rfl) ?_ _
      refine NoPanic.normal ?_
      go_wp2_with (first | (go_at_call 25; (with_reducible refine (markChain_b _ s _ _ (1) (cntCh_past HM0.out) (S.both memA) (by omega) (by omega)).mono ?_); rintro e w9 ⟨rfl, h9, c9⟩; replace S := S.putOwn putA h9 c9; clear h9 c9) | (go_at_call 44; (with_reducible refine (markState_b _ o _ _ (1 + (cntMCh s : Int)) (S.both memA) (by omega) (by omega)).mono ?_); rintro e w9 ⟨rfl, h9, c9⟩; replace S := S.putOwn putA h9 c9; clear h9 c9) | (go_at_call 24; (with_reducible refine (eqChain_c _ x _ _ (by first | exact S.rd memA | exact S.rdIn memA) (by first | exact S.rd memA | exact S.rdIn memA)).mono ?_); rintro e w9 ⟨rfl, f9⟩; replace S := S.fr f9; clear f9) | (go_at_call 25; (with_reducible refine (markChain_b _ x _ _ (1) (smallCh_past HX.out) (S.both memA) (by omega) (by omega)).mono ?_); rintro e w9 ⟨rfl, h9, c9⟩; replace S := S.putOwn putA h9 c9; clear h9 c9) | (go_at_call 26; (with_reducible refine (heldChain_c _ x _ 1 (by first | exact S.rd memA | exact S.rdIn memA) HX.out (by omega) (by omega)).mono ?_); rintro e w9 ⟨rfl, f9⟩; replace S := S.fr f9; clear f9) | ((with_reducible refine gate_box rfl ?_); refine aBx S ?_; clear S; intro g9 w9 z9 S) | ((with_reducible refine gate_alloc rfl ?_); refine aAl S ?_; clear S; intro g9 w9 z9 S) | ((with_reducible refine gate_load rfl ?_); first | refine aLd S ?_ | refine aPt S ?_ | refine aL1 S ?_) | ((with_reducible refine gate_st rfl ?_); (first | refine aS1 S ?_ | refine aSt S ?_ | refine aSp S ?_); clear S; intro w9 S))
      have S0 := S
      refine wp_region_noPanic ?_
      refine wp_region_held_drew (S := Sep _ _ _) (by kernel_rfl) S0.drew (fun _ => ?_)
      replace S := S.drew
      clear S0
      refine tk 0 ?_
      (try simp only [Act.put, List.setIfInBounds_toArray, List.set_cons_zero, List.set_cons_succ])
      refine tk 2 ?_
      (try simp only [Act.put, List.setIfInBounds_toArray, List.set_cons_zero, List.set_cons_succ])
      refine tk 4 ?_
      (try simp only [Act.put, List.setIfInBounds_toArray, List.set_cons_zero, List.set_cons_succ])
      refine rdys [1, 9] ?_
      refine rdc 1 (fun K hK => ?_) ?_
      · go_simp; (skip; go_at_call 34; (with_reducible refine (toChain_c _ s _ (FIN0.out _ S.frame) HM0.out).mono ?_); rintro e w9 ⟨cs9, F9, rfl, h9, n9, b9, f9⟩; replace S := S.new (aOwn tCh _ cs9 F9) h9 n9 b9 f9; clear h9 n9 b9 f9)
        (first | refine hK.out _ _ (S.sub subA) (fun _ => ?_) | (go_wp2_with fail; refine hK.out _ _ (S.sub subA) (fun _ => ?_)))
        clear hK K
        (try simp only [Act.put, List.setIfInBounds_toArray, List.set_cons_zero, List.set_cons_succ])
        refine rdys [3, 9] ?_
        refine rdc 3 (fun K hK => ?_) ?_
        · go_simp; (skip; go_at_call 52; (with_reducible refine (toState_c _ o _ (FIN1.out _ S.frame) HM1.out).mono ?_); rintro e w9 ⟨cs9, F9, rfl, h9, n9, b9, f9⟩; replace S := S.new (aOwn tSt _ cs9 F9) h9 n9 b9 f9; clear h9 n9 b9 f9)
          (first | refine hK.out _ _ (S.sub subA) (fun _ => ?_) | (go_wp2_with fail; refine hK.out _ _ (S.sub subA) (fun _ => ?_)))
          clear hK K
          (try simp only [Act.put, List.setIfInBounds_toArray, List.set_cons_zero, List.set_cons_succ])
          refine rdys [5, 9] ?_
          refine rdc 5 (fun K hK => ?_) ?_
          · go_simp; (skip; go_at_call 55; (with_reducible refine (RelayTell_e _ s o _ _ (by first | exact S.rd memA | exact S.rdIn memA) (by first | exact S.rd memA | exact S.rdIn memA) n B2.out HR.out).mono ?_); rintro e w9 ⟨cs9, F9, rfl, h9, n9, b9, f9⟩; replace S := S.new (aOwn tCh _ cs9 F9) h9 n9 b9 f9; clear h9 n9 b9 f9)
            (first | refine hK.out _ _ (S.sub subA) (fun _ => ?_) | (go_wp2_with fail; refine hK.out _ _ (S.sub subA) (fun _ => ?_)))
            clear hK K
            (try simp only [Act.put, List.setIfInBounds_toArray, List.set_cons_zero, List.set_cons_succ])
            refine tk 6 ?_
            (try simp only [Act.put, List.setIfInBounds_toArray, List.set_cons_zero, List.set_cons_succ])
            refine tk 7 ?_
            (try simp only [Act.put, List.setIfInBounds_toArray, List.set_cons_zero, List.set_cons_succ])
            refine tk 8 ?_
            (try simp only [Act.put, List.setIfInBounds_toArray, List.set_cons_zero, List.set_cons_succ])
            refine rdy1 9 (fun K hK => ?_)
            refine rgAl S ?_; clear S; intro g9 w9 z9 S
            (first | refine hK.out _ _ (S.sub subA) (fun _ => ?_) | (go_wp2_with fail; refine hK.out _ _ (S.sub subA) (fun _ => ?_)))
            clear hK K
            (try simp only [Act.put, List.setIfInBounds_toArray, List.set_cons_zero, List.set_cons_succ])
            refine rdy1 10 (fun K hK => ?_)
            (first | refine rgS1 S ?_ | refine rgSt S ?_ | refine rgSp S ?_); clear S; intro w9 S
            (first | refine hK.out _ _ (S.sub subA) (fun _ => ?_) | (go_wp2_with fail; refine hK.out _ _ (S.sub subA) (fun _ => ?_)))
            clear hK K
            (try simp only [Act.put, List.setIfInBounds_toArray, List.set_cons_zero, List.set_cons_succ])
            refine tk 11 ?_
            (try simp only [Act.put, List.setIfInBounds_toArray, List.set_cons_zero, List.set_cons_succ])
            refine wpAnyH_done (by kernel_rfl) ?_ _
            refine NoPanic.normal ?_
            go_wp2_with (first | (go_at_call 24; (with_reducible refine (eqChain_c _ x _ _ (by first | exact S.rd memA | exact S.rdIn memA) (by first | exact S.rd memA | exact S.rdIn memA)).mono ?_); rintro e w9 ⟨rfl, f9⟩; replace S := S.fr f9; clear f9) | (go_at_call 26; (with_reducible refine (heldChain_c _ x _ 1 (by first | exact S.rd memA | exact S.rdIn memA) HX.out (by omega) (by omega)).mono ?_); rintro e w9 ⟨rfl, f9⟩; replace S := S.fr f9; clear f9) | ((with_reducible refine gate_box rfl ?_); refine aBx S ?_; clear S; intro g9 w9 z9 S) | ((with_reducible refine gate_alloc rfl ?_); refine aAl S ?_; clear S; intro g9 w9 z9 S) | ((with_reducible refine gate_load rfl ?_); first | refine aLd S ?_ | refine aPt S ?_ | refine aL1 S ?_) | ((with_reducible refine gate_st rfl ?_); (first | refine aS1 S ?_ | refine aSt S ?_ | refine aSp S ?_); clear S; intro w9 S))
            go_ret
            exact ⟨rfl, S.frame⟩
          refine rdc 9 (fun K hK => ?_) AllReadyH.nil
          refine rgAl S ?_; clear S; intro g9 w9 z9 S
          (first | refine hK.out _ _ (S.sub subA) (fun _ => ?_) | (go_wp2_with fail; refine hK.out _ _ (S.sub subA) (fun _ => ?_)))
          clear hK K
          (try simp only [Act.put, List.setIfInBounds_toArray, List.set_cons_zero, List.set_cons_succ])
          refine rdy1 5 (fun K hK => ?_)
          go_simp; (skip; go_at_call 55; (with_reducible refine (RelayTell_e _ s o _ _ (by first | exact S.rd memA | exact S.rdIn memA) (by first | exact S.rd memA | exact S.rdIn memA) n B2.out HR.out).mono ?_); rintro e w9 ⟨cs9, F9, rfl, h9, n9, b9, f9⟩; replace S := S.new (aOwn tCh _ cs9 F9) h9 n9 b9 f9; clear h9 n9 b9 f9)
          (first | refine hK.out _ _ (S.sub subA) (fun _ => ?_) | (go_wp2_with fail; refine hK.out _ _ (S.sub subA) (fun _ => ?_)))
          clear hK K
          (try simp only [Act.put, List.setIfInBounds_toArray, List.set_cons_zero, List.set_cons_succ])
          refine tk 6 ?_
          (try simp only [Act.put, List.setIfInBounds_toArray, List.set_cons_zero, List.set_cons_succ])
          refine tk 7 ?_
          (try simp only [Act.put, List.setIfInBounds_toArray, List.set_cons_zero, List.set_cons_succ])
          refine tk 8 ?_
          (try simp only [Act.put, List.setIfInBounds_toArray, List.set_cons_zero, List.set_cons_succ])
          refine rdy1 10 (fun K hK => ?_)
          (first | refine rgS1 S ?_ | refine rgSt S ?_ | refine rgSp S ?_); clear S; intro w9 S
          (first | refine hK.out _ _ (S.sub subA) (fun _ => ?_) | (go_wp2_with fail; refine hK.out _ _ (S.sub subA) (fun _ => ?_)))
          clear hK K
          (try simp only [Act.put, List.setIfInBounds_toArray, List.set_cons_zero, List.set_cons_succ])
          refine tk 11 ?_
          (try simp only [Act.put, List.setIfInBounds_toArray, List.set_cons_zero, List.set_cons_succ])
          refine wpAnyH_done (by kernel_rfl) ?_ _
          refine NoPanic.normal ?_
          go_wp2_with (first | (go_at_call 24; (with_reducible refine (eqChain_c _ x _ _ (by first | exact S.rd memA | exact S.rdIn memA) (by first | exact S.rd memA | exact S.rdIn memA)).mono ?_); rintro e w9 ⟨rfl, f9⟩; replace S := S.fr f9; clear f9) | (go_at_call 26; (with_reducible refine (heldChain_c _ x _ 1 (by first | exact S.rd memA | exact S.rdIn memA) HX.out (by omega) (by omega)).mono ?_); rintro e w9 ⟨rfl, f9⟩; replace S := S.fr f9; clear f9) | ((with_reducible refine gate_box rfl ?_); refine aBx S ?_; clear S; intro g9 w9 z9 S) | ((with_reducible refine gate_alloc rfl ?_); refine aAl S ?_; clear S; intro g9 w9 z9 S) | ((with_reducible refine gate_load rfl ?_); first | refine aLd S ?_ | refine aPt S ?_ | refine aL1 S ?_) | ((with_reducible refine gate_st rfl ?_); (first | refine aS1 S ?_ | refine aSt S ?_ | refine aSp S ?_); clear S; intro w9 S))
          go_ret
          exact ⟨rfl, S.frame⟩
        refine rdc 9 (fun K hK => ?_) AllReadyH.nil
        refine rgAl S ?_; clear S; intro g9 w9 z9 S
        (first | refine hK.out _ _ (S.sub subA) (fun _ => ?_) | (go_wp2_with fail; refine hK.out _ _ (S.sub subA) (fun _ => ?_)))
        clear hK K
        (try simp only [Act.put, List.setIfInBounds_toArray, List.set_cons_zero, List.set_cons_succ])
        refine rdy1 3 (fun K hK => ?_)
        go_simp; (skip; go_at_call 52; (with_reducible refine (toState_c _ o _ (FIN1.out _ S.frame) HM1.out).mono ?_); rintro e w9 ⟨cs9, F9, rfl, h9, n9, b9, f9⟩; replace S := S.new (aOwn tSt _ cs9 F9) h9 n9 b9 f9; clear h9 n9 b9 f9)
        (first | refine hK.out _ _ (S.sub subA) (fun _ => ?_) | (go_wp2_with fail; refine hK.out _ _ (S.sub subA) (fun _ => ?_)))
        clear hK K
        (try simp only [Act.put, List.setIfInBounds_toArray, List.set_cons_zero, List.set_cons_succ])
        refine rdy1 5 (fun K hK => ?_)
        go_simp; (skip; go_at_call 55; (with_reducible refine (RelayTell_e _ s o _ _ (by first | exact S.rd memA | exact S.rdIn memA) (by first | exact S.rd memA | exact S.rdIn memA) n B2.out HR.out).mono ?_); rintro e w9 ⟨cs9, F9, rfl, h9, n9, b9, f9⟩; replace S := S.new (aOwn tCh _ cs9 F9) h9 n9 b9 f9; clear h9 n9 b9 f9)
        (first | refine hK.out _ _ (S.sub subA) (fun _ => ?_) | (go_wp2_with fail; refine hK.out _ _ (S.sub subA) (fun _ => ?_)))
        clear hK K
        (try simp only [Act.put, List.setIfInBounds_toArray, List.set_cons_zero, List.set_cons_succ])
        refine tk 6 ?_
        (try simp only [Act.put, List.setIfInBounds_toArray, List.set_cons_zero, List.set_cons_succ])
        refine tk 7 ?_
        (try simp only [Act.put, List.setIfInBounds_toArray, List.set_cons_zero, List.set_cons_succ])
        refine tk 8 ?_
        (try simp only [Act.put, List.setIfInBounds_toArray, List.set_cons_zero, List.set_cons_succ])
        refine rdy1 10 (fun K hK => ?_)
        (first | refine rgS1 S ?_ | refine rgSt S ?_ | refine rgSp S ?_); clear S; intro w9 S
        (first | refine hK.out _ _ (S.sub subA) (fun _ => ?_) | (go_wp2_with fail; refine hK.out _ _ (S.sub subA) (fun _ => ?_)))
        clear hK K
        (try simp only [Act.put, List.setIfInBounds_toArray, List.set_cons_zero, List.set_cons_succ])
        refine tk 11 ?_
        (try simp only [Act.put, List.setIfInBounds_toArray, List.set_cons_zero, List.set_cons_succ])
        refine wpAnyH_done (by kernel_rfl) ?_ _
        refine NoPanic.normal ?_
        go_wp2_with (first | (go_at_call 24; (with_reducible refine (eqChain_c _ x _ _ (by first | exact S.rd memA | exact S.rdIn memA) (by first | exact S.rd memA | exact S.rdIn memA)).mono ?_); rintro e w9 ⟨rfl, f9⟩; replace S := S.fr f9; clear f9) | (go_at_call 26; (with_reducible refine (heldChain_c _ x _ 1 (by first | exact S.rd memA | exact S.rdIn memA) HX.out (by omega) (by omega)).mono ?_); rintro e w9 ⟨rfl, f9⟩; replace S := S.fr f9; clear f9) | ((with_reducible refine gate_box rfl ?_); refine aBx S ?_; clear S; intro g9 w9 z9 S) | ((with_reducible refine gate_alloc rfl ?_); refine aAl S ?_; clear S; intro g9 w9 z9 S) | ((with_reducible refine gate_load rfl ?_); first | refine aLd S ?_ | refine aPt S ?_ | refine aL1 S ?_) | ((with_reducible refine gate_st rfl ?_); (first | refine aS1 S ?_ | refine aSt S ?_ | refine aSp S ?_); clear S; intro w9 S))
        go_ret
        exact ⟨rfl, S.frame⟩
      refine rdc 9 (fun K hK => ?_) AllReadyH.nil
      refine rgAl S ?_; clear S; intro g9 w9 z9 S
      (first | refine hK.out _ _ (S.sub subA) (fun _ => ?_) | (go_wp2_with fail; refine hK.out _ _ (S.sub subA) (fun _ => ?_)))
      clear hK K
      (try simp only [Act.put, List.setIfInBounds_toArray, List.set_cons_zero, List.set_cons_succ])
      refine rdy1 1 (fun K hK => ?_)
      go_simp; (skip; go_at_call 34; (with_reducible refine (toChain_c _ s _ (FIN0.out _ S.frame) HM0.out).mono ?_); rintro e w9 ⟨cs9, F9, rfl, h9, n9, b9, f9⟩; replace S := S.new (aOwn tCh _ cs9 F9) h9 n9 b9 f9; clear h9 n9 b9 f9)
      (first | refine hK.out _ _ (S.sub subA) (fun _ => ?_) | (go_wp2_with fail; refine hK.out _ _ (S.sub subA) (fun _ => ?_)))
      clear hK K
      (try simp only [Act.put, List.setIfInBounds_toArray, List.set_cons_zero, List.set_cons_succ])
      refine rdy1 3 (fun K hK => ?_)
      go_simp; (skip; go_at_call 52; (with_reducible refine (toState_c _ o _ (FIN1.out _ S.frame) HM1.out).mono ?_); rintro e w9 ⟨cs9, F9, rfl, h9, n9, b9, f9⟩; replace S := S.new (aOwn tSt _ cs9 F9) h9 n9 b9 f9; clear h9 n9 b9 f9)
      (first | refine hK.out _ _ (S.sub subA) (fun _ => ?_) | (go_wp2_with fail; refine hK.out _ _ (S.sub subA) (fun _ => ?_)))
      clear hK K
      (try simp only [Act.put, List.setIfInBounds_toArray, List.set_cons_zero, List.set_cons_succ])
      refine rdy1 5 (fun K hK => ?_)
      go_simp; (skip; go_at_call 55; (with_reducible refine (RelayTell_e _ s o _ _ (by first | exact S.rd memA | exact S.rdIn memA) (by first | exact S.rd memA | exact S.rdIn memA) n B2.out HR.out).mono ?_); rintro e w9 ⟨cs9, F9, rfl, h9, n9, b9, f9⟩; replace S := S.new (aOwn tCh _ cs9 F9) h9 n9 b9 f9; clear h9 n9 b9 f9)
      (first | refine hK.out _ _ (S.sub subA) (fun _ => ?_) | (go_wp2_with fail; refine hK.out _ _ (S.sub subA) (fun _ => ?_)))
      clear hK K
      (try simp only [Act.put, List.setIfInBounds_toArray, List.set_cons_zero, List.set_cons_succ])
      refine tk 6 ?_
      (try simp only [Act.put, List.setIfInBounds_toArray, List.set_cons_zero, List.set_cons_succ])
      refine tk 7 ?_
      (try simp only [Act.put, List.setIfInBounds_toArray, List.set_cons_zero, List.set_cons_succ])
      refine tk 8 ?_
      (try simp only [Act.put, List.setIfInBounds_toArray, List.set_cons_zero, List.set_cons_succ])
      refine rdy1 10 (fun K hK => ?_)
      (first | refine rgS1 S ?_ | refine rgSt S ?_ | refine rgSp S ?_); clear S; intro w9 S
      (first | refine hK.out _ _ (S.sub subA) (fun _ => ?_) | (go_wp2_with fail; refine hK.out _ _ (S.sub subA) (fun _ => ?_)))
      clear hK K
      (try simp only [Act.put, List.setIfInBounds_toArray, List.set_cons_zero, List.set_cons_succ])
      refine tk 11 ?_
      (try simp only [Act.put, List.setIfInBounds_toArray, List.set_cons_zero, List.set_cons_succ])
      refine wpAnyH_done (by kernel_rfl) ?_ _
      refine NoPanic.normal ?_
      go_wp2_with (first | (go_at_call 24; (with_reducible refine (eqChain_c _ x _ _ (by first | exact S.rd memA | exact S.rdIn memA) (by first | exact S.rd memA | exact S.rdIn memA)).mono ?_); rintro e w9 ⟨rfl, f9⟩; replace S := S.fr f9; clear f9) | (go_at_call 26; (with_reducible refine (heldChain_c _ x _ 1 (by first | exact S.rd memA | exact S.rdIn memA) HX.out (by omega) (by omega)).mono ?_); rintro e w9 ⟨rfl, f9⟩; replace S := S.fr f9; clear f9) | ((with_reducible refine gate_box rfl ?_); refine aBx S ?_; clear S; intro g9 w9 z9 S) | ((with_reducible refine gate_alloc rfl ?_); refine aAl S ?_; clear S; intro g9 w9 z9 S) | ((with_reducible refine gate_load rfl ?_); first | refine aLd S ?_ | refine aPt S ?_ | refine aL1 S ?_) | ((with_reducible refine gate_st rfl ?_); (first | refine aS1 S ?_ | refine aSt S ?_ | refine aSp S ?_); clear S; intro w9 S))
      go_ret
      exact ⟨rfl, S.frame⟩
    refine rdc 9 (fun K hK => ?_) AllReadyH.nil
    refine rgAl S ?_; clear S; intro g9 w9 z9 S
    (first | refine hK.out _ _ (S.sub subA) (fun _ => ?_) | (go_wp2_with fail; refine hK.out _ _ (S.sub subA) (fun _ => ?_)))
    clear hK K
    (try simp only [Act.put, List.setIfInBounds_toArray, List.set_cons_zero, List.set_cons_succ])
    refine rdy1 3 (fun K hK => ?_)
    go_simp; (skip; go_at_call 52; (with_reducible refine (toState_c _ o _ (FIN1.out _ S.frame) HM1.out).mono ?_); rintro e w9 ⟨cs9, F9, rfl, h9, n9, b9, f9⟩; replace S := S.new (aOwn tSt _ cs9 F9) h9 n9 b9 f9; clear h9 n9 b9 f9)
    (first | refine hK.out _ _ (S.sub subA) (fun _ => ?_) | (go_wp2_with fail; refine hK.out _ _ (S.sub subA) (fun _ => ?_)))
    clear hK K
    (try simp only [Act.put, List.setIfInBounds_toArray, List.set_cons_zero, List.set_cons_succ])
    refine rdy1 5 (fun K hK => ?_)
    go_simp; (skip; go_at_call 54; (with_reducible refine (sRelayTell_e _ s o _ _ (by first | exact S.rd memA | exact S.rdIn memA) (by first | exact S.rd memA | exact S.rdIn memA) n B2.out HR.out).mono ?_); rintro e w9 ⟨cs9, F9, rfl, h9, n9, b9, f9⟩; replace S := S.new (aOwn tCh _ cs9 F9) h9 n9 b9 f9; clear h9 n9 b9 f9)
    (first | refine hK.out _ _ (S.sub subA) (fun _ => ?_) | (go_wp2_with fail; refine hK.out _ _ (S.sub subA) (fun _ => ?_)))
    clear hK K
    (try simp only [Act.put, List.setIfInBounds_toArray, List.set_cons_zero, List.set_cons_succ])
    refine tk 6 ?_
    (try simp only [Act.put, List.setIfInBounds_toArray, List.set_cons_zero, List.set_cons_succ])
    refine tk 7 ?_
    (try simp only [Act.put, List.setIfInBounds_toArray, List.set_cons_zero, List.set_cons_succ])
    refine tk 8 ?_
    (try simp only [Act.put, List.setIfInBounds_toArray, List.set_cons_zero, List.set_cons_succ])
    refine rdy1 10 (fun K hK => ?_)
    (first | refine rgS1 S ?_ | refine rgSt S ?_ | refine rgSp S ?_); clear S; intro w9 S
    (first | refine hK.out _ _ (S.sub subA) (fun _ => ?_) | (go_wp2_with fail; refine hK.out _ _ (S.sub subA) (fun _ => ?_)))
    clear hK K
    (try simp only [Act.put, List.setIfInBounds_toArray, List.set_cons_zero, List.set_cons_succ])
    refine tk 11 ?_
    (try simp only [Act.put, List.setIfInBounds_toArray, List.set_cons_zero, List.set_cons_succ])
    refine wpAnyH_done (by kernel_rfl) ?_ _
    refine NoPanic.normal ?_
    go_wp2_with (first | (go_at_call 34; (with_reducible refine (toChain_c _ s _ (FIN0.out _ S.frame) HM0.out).mono ?_); rintro e w9 ⟨cs9, F9, rfl, h9, n9, b9, f9⟩; replace S := S.new (aOwn tCh _ cs9 F9) h9 n9 b9 f9; clear h9 n9 b9 f9) | (go_at_call 52; (with_reducible refine (toState_c _ o _ (FIN1.out _ S.frame) HM1.out).mono ?_); rintro e w9 ⟨cs9, F9, rfl, h9, n9, b9, f9⟩; replace S := S.new (aOwn tSt _ cs9 F9) h9 n9 b9 f9; clear h9 n9 b9 f9) | (go_at_call 55; (with_reducible refine (RelayTell_e _ s o _ _ (by first | exact S.rd memA | exact S.rdIn memA) (by first | exact S.rd memA | exact S.rdIn memA) n B2.out HR.out).mono ?_); rintro e w9 ⟨cs9, F9, rfl, h9, n9, b9, f9⟩; replace S := S.new (aOwn tCh _ cs9 F9) h9 n9 b9 f9; clear h9 n9 b9 f9) | (go_at_call 24; (with_reducible refine (eqChain_c _ x _ _ (by first | exact S.rd memA | exact S.rdIn memA) (by first | exact S.rd memA | exact S.rdIn memA)).mono ?_); rintro e w9 ⟨rfl, f9⟩; replace S := S.fr f9; clear f9) | ((with_reducible refine gate_box rfl ?_); refine aBx S ?_; clear S; intro g9 w9 z9 S) | ((with_reducible refine gate_alloc rfl ?_); refine aAl S ?_; clear S; intro g9 w9 z9 S) | ((with_reducible refine gate_load rfl ?_); first | refine aLd S ?_ | refine aPt S ?_ | refine aL1 S ?_) | ((with_reducible refine gate_st rfl ?_); (first | refine aS1 S ?_ | refine aSt S ?_ | refine aSp S ?_); clear S; intro w9 S))
    have S0 := S
    refine wp_region_noPanic ?_
    refine wp_region_held_drew (S := Sep _ _ _) (by kernel_rfl) S0.drew (fun _ => ?_)
    replace S := S.drew
    clear S0
    refine tk 0 ?_
    (try simp only [Act.put, List.setIfInBounds_toArray, List.set_cons_zero, List.set_cons_succ])
    refine tk 1 ?_
    (try simp only [Act.put, List.setIfInBounds_toArray, List.set_cons_zero, List.set_cons_succ])
    refine rdy1 2 (fun K hK => ?_)
    go_simp; (skip; go_at_call 34; (with_reducible refine (toChain_c _ s _ (FIN0.out _ S.frame) HM0.out).mono ?_); rintro e w9 ⟨cs9, F9, rfl, h9, n9, b9, f9⟩; replace S := S.new (aOwn tCh _ cs9 F9) h9 n9 b9 f9; clear h9 n9 b9 f9)
    (first | refine hK.out _ _ (S.sub subA) (fun _ => ?_) | (go_wp2_with fail; refine hK.out _ _ (S.sub subA) (fun _ => ?_)))
    clear hK K
    (try simp only [Act.put, List.setIfInBounds_toArray, List.set_cons_zero, List.set_cons_succ])
    refine rdy1 3 (fun K hK => ?_)
    go_simp; (skip; go_at_call 24; (with_reducible refine (eqChain_c _ s _ _ (by first | exact S.rd memA | exact S.rdIn memA) (by first | exact S.rd memA | exact S.rdIn memA)).mono ?_); rintro e w9 ⟨rfl, f9⟩; replace S := S.fr f9; clear f9)
    (first | refine hK.out _ _ (S.sub subA) (fun _ => ?_) | (go_wp2_with fail; refine hK.out _ _ (S.sub subA) (fun _ => ?_)))
    clear hK K
    (try simp only [Act.put, List.setIfInBounds_toArray, List.set_cons_zero, List.set_cons_succ])
    refine tk 4 ?_
    (try simp only [Act.put, List.setIfInBounds_toArray, List.set_cons_zero, List.set_cons_succ])
    refine wpAnyH_done (by kernel_rfl) ?_ _
    refine NoPanic.normal ?_
    go_wp2_with (first | ((with_reducible refine gate_box rfl ?_); refine aBx S ?_; clear S; intro g9 w9 z9 S) | ((with_reducible refine gate_alloc rfl ?_); refine aAl S ?_; clear S; intro g9 w9 z9 S) | ((with_reducible refine gate_load rfl ?_); first | refine aLd S ?_ | refine aPt S ?_ | refine aL1 S ?_) | ((with_reducible refine gate_st rfl ?_); (first | refine aS1 S ?_ | refine aSt S ?_ | refine aSp S ?_); clear S; intro w9 S))
    have S0 := S
    refine wp_region_noPanic ?_
    refine wp_region_held_drew (S := Sep _ _ _) (by kernel_rfl) S0.drew (fun _ => ?_)
    replace S := S.drew
    clear S0
    refine tk 0 ?_
    (try simp only [Act.put, List.setIfInBounds_toArray, List.set_cons_zero, List.set_cons_succ])
    refine tk 1 ?_
    (try simp only [Act.put, List.setIfInBounds_toArray, List.set_cons_zero, List.set_cons_succ])
    refine rdy1 2 (fun K hK => ?_)
    go_simp; (skip; go_at_call 52; (with_reducible refine (toState_c _ o _ (FIN1.out _ S.frame) HM1.out).mono ?_); rintro e w9 ⟨cs9, F9, rfl, h9, n9, b9, f9⟩; replace S := S.new (aOwn tSt _ cs9 F9) h9 n9 b9 f9; clear h9 n9 b9 f9)
    (first | refine hK.out _ _ (S.sub subA) (fun _ => ?_) | (go_wp2_with fail; refine hK.out _ _ (S.sub subA) (fun _ => ?_)))
    clear hK K
    (try simp only [Act.put, List.setIfInBounds_toArray, List.set_cons_zero, List.set_cons_succ])
    refine rdy1 3 (fun K hK => ?_)
    go_simp; (skip; go_at_call 43; (with_reducible refine (eqState_c _ o _ _ (by first | exact S.rd memA | exact S.rdIn memA) (by first | exact S.rd memA | exact S.rdIn memA)).mono ?_); rintro e w9 ⟨rfl, f9⟩; replace S := S.fr f9; clear f9)
    (first | refine hK.out _ _ (S.sub subA) (fun _ => ?_) | (go_wp2_with fail; refine hK.out _ _ (S.sub subA) (fun _ => ?_)))
    clear hK K
    (try simp only [Act.put, List.setIfInBounds_toArray, List.set_cons_zero, List.set_cons_succ])
    refine tk 4 ?_
    (try simp only [Act.put, List.setIfInBounds_toArray, List.set_cons_zero, List.set_cons_succ])
    refine wpAnyH_done (by kernel_rfl) ?_ _
    refine NoPanic.normal ?_
    go_wp2_with (first | (go_at_call 25; (with_reducible refine (markChain_b _ s _ _ (1) (cntCh_past HM0.out) (S.both memA) (by omega) (by omega)).mono ?_); rintro e w9 ⟨rfl, h9, c9⟩; replace S := S.putOwn putA h9 c9; clear h9 c9) | (go_at_call 44; (with_reducible refine (markState_b _ o _ _ (1 + (cntMCh s : Int)) (S.both memA) (by omega) (by omega)).mono ?_); rintro e w9 ⟨rfl, h9, c9⟩; replace S := S.putOwn putA h9 c9; clear h9 c9) | (go_at_call 24; (with_reducible refine (eqChain_c _ x _ _ (by first | exact S.rd memA | exact S.rdIn memA) (by first | exact S.rd memA | exact S.rdIn memA)).mono ?_); rintro e w9 ⟨rfl, f9⟩; replace S := S.fr f9; clear f9) | (go_at_call 25; (with_reducible refine (markChain_b _ x _ _ (1) (smallCh_past HX.out) (S.both memA) (by omega) (by omega)).mono ?_); rintro e w9 ⟨rfl, h9, c9⟩; replace S := S.putOwn putA h9 c9; clear h9 c9) | (go_at_call 26; (with_reducible refine (heldChain_c _ x _ 1 (by first | exact S.rd memA | exact S.rdIn memA) HX.out (by omega) (by omega)).mono ?_); rintro e w9 ⟨rfl, f9⟩; replace S := S.fr f9; clear f9) | ((with_reducible refine gate_box rfl ?_); refine aBx S ?_; clear S; intro g9 w9 z9 S) | ((with_reducible refine gate_alloc rfl ?_); refine aAl S ?_; clear S; intro g9 w9 z9 S) | ((with_reducible refine gate_load rfl ?_); first | refine aLd S ?_ | refine aPt S ?_ | refine aL1 S ?_) | ((with_reducible refine gate_st rfl ?_); (first | refine aS1 S ?_ | refine aSt S ?_ | refine aSp S ?_); clear S; intro w9 S))
    have S0 := S
    refine wp_region_noPanic ?_
    refine wp_region_held_drew (S := Sep _ _ _) (by kernel_rfl) S0.drew (fun _ => ?_)
    replace S := S.drew
    clear S0
    refine tk 0 ?_
    (try simp only [Act.put, List.setIfInBounds_toArray, List.set_cons_zero, List.set_cons_succ])
    refine tk 2 ?_
    (try simp only [Act.put, List.setIfInBounds_toArray, List.set_cons_zero, List.set_cons_succ])
    refine tk 4 ?_
    (try simp only [Act.put, List.setIfInBounds_toArray, List.set_cons_zero, List.set_cons_succ])
    refine rdys [1, 9] ?_
    refine rdc 1 (fun K hK => ?_) ?_
    · go_simp; (skip; go_at_call 34; (with_reducible refine (toChain_c _ s _ (FIN0.out _ S.frame) HM0.out).mono ?_); rintro e w9 ⟨cs9, F9, rfl, h9, n9, b9, f9⟩; replace S := S.new (aOwn tCh _ cs9 F9) h9 n9 b9 f9; clear h9 n9 b9 f9)
      (first | refine hK.out _ _ (S.sub subA) (fun _ => ?_) | (go_wp2_with fail; refine hK.out _ _ (S.sub subA) (fun _ => ?_)))
      clear hK K
      (try simp only [Act.put, List.setIfInBounds_toArray, List.set_cons_zero, List.set_cons_succ])
      refine rdys [3, 9] ?_
      refine rdc 3 (fun K hK => ?_) ?_
      · go_simp; (skip; go_at_call 52; (with_reducible refine (toState_c _ o _ (FIN1.out _ S.frame) HM1.out).mono ?_); rintro e w9 ⟨cs9, F9, rfl, h9, n9, b9, f9⟩; replace S := S.new (aOwn tSt _ cs9 F9) h9 n9 b9 f9; clear h9 n9 b9 f9)
        (first | refine hK.out _ _ (S.sub subA) (fun _ => ?_) | (go_wp2_with fail; refine hK.out _ _ (S.sub subA) (fun _ => ?_)))
        clear hK K
        (try simp only [Act.put, List.setIfInBounds_toArray, List.set_cons_zero, List.set_cons_succ])
        refine rdys [5, 9] ?_
        refine rdc 5 (fun K hK => ?_) ?_
        · go_simp; (skip; go_at_call 55; (with_reducible refine (RelayTell_e _ s o _ _ (by first | exact S.rd memA | exact S.rdIn memA) (by first | exact S.rd memA | exact S.rdIn memA) n B2.out HR.out).mono ?_); rintro e w9 ⟨cs9, F9, rfl, h9, n9, b9, f9⟩; replace S := S.new (aOwn tCh _ cs9 F9) h9 n9 b9 f9; clear h9 n9 b9 f9)
          (first | refine hK.out _ _ (S.sub subA) (fun _ => ?_) | (go_wp2_with fail; refine hK.out _ _ (S.sub subA) (fun _ => ?_)))
          clear hK K
          (try simp only [Act.put, List.setIfInBounds_toArray, List.set_cons_zero, List.set_cons_succ])
          refine tk 6 ?_
          (try simp only [Act.put, List.setIfInBounds_toArray, List.set_cons_zero, List.set_cons_succ])
          refine tk 7 ?_
          (try simp only [Act.put, List.setIfInBounds_toArray, List.set_cons_zero, List.set_cons_succ])
          refine tk 8 ?_
          (try simp only [Act.put, List.setIfInBounds_toArray, List.set_cons_zero, List.set_cons_succ])
          refine rdy1 9 (fun K hK => ?_)
          refine rgAl S ?_; clear S; intro g9 w9 z9 S
          (first | refine hK.out _ _ (S.sub subA) (fun _ => ?_) | (go_wp2_with fail; refine hK.out _ _ (S.sub subA) (fun _ => ?_)))
          clear hK K
          (try simp only [Act.put, List.setIfInBounds_toArray, List.set_cons_zero, List.set_cons_succ])
          refine rdy1 10 (fun K hK => ?_)
          (first | refine rgS1 S ?_ | refine rgSt S ?_ | refine rgSp S ?_); clear S; intro w9 S
          (first | refine hK.out _ _ (S.sub subA) (fun _ => ?_) | (go_wp2_with fail; refine hK.out _ _ (S.sub subA) (fun _ => ?_)))
          clear hK K
          (try simp only [Act.put, List.setIfInBounds_toArray, List.set_cons_zero, List.set_cons_succ])
          refine tk 11 ?_
          (try simp only [Act.put, List.setIfInBounds_toArray, List.set_cons_zero, List.set_cons_succ])
          refine wpAnyH_done (by kernel_rfl) ?_ _
          refine NoPanic.normal ?_
          go_wp2_with (first | (go_at_call 24; (with_reducible refine (eqChain_c _ x _ _ (by first | exact S.rd memA | exact S.rdIn memA) (by first | exact S.rd memA | exact S.rdIn memA)).mono ?_); rintro e w9 ⟨rfl, f9⟩; replace S := S.fr f9; clear f9) | (go_at_call 26; (with_reducible refine (heldChain_c _ x _ 1 (by first | exact S.rd memA | exact S.rdIn memA) HX.out (by omega) (by omega)).mono ?_); rintro e w9 ⟨rfl, f9⟩; replace S := S.fr f9; clear f9) | ((with_reducible refine gate_box rfl ?_); refine aBx S ?_; clear S; intro g9 w9 z9 S) | ((with_reducible refine gate_alloc rfl ?_); refine aAl S ?_; clear S; intro g9 w9 z9 S) | ((with_reducible refine gate_load rfl ?_); first | refine aLd S ?_ | refine aPt S ?_ | refine aL1 S ?_) | ((with_reducible refine gate_st rfl ?_); (first | refine aS1 S ?_ | refine aSt S ?_ | refine aSp S ?_); clear S; intro w9 S))
          go_ret
          exact ⟨rfl, S.frame⟩
        refine rdc 9 (fun K hK => ?_) AllReadyH.nil
        refine rgAl S ?_; clear S; intro g9 w9 z9 S
        (first | refine hK.out _ _ (S.sub subA) (fun _ => ?_) | (go_wp2_with fail; refine hK.out _ _ (S.sub subA) (fun _ => ?_)))
        clear hK K
        (try simp only [Act.put, List.setIfInBounds_toArray, List.set_cons_zero, List.set_cons_succ])
        refine rdy1 5 (fun K hK => ?_)
        go_simp; (skip; go_at_call 55; (with_reducible refine (RelayTell_e _ s o _ _ (by first | exact S.rd memA | exact S.rdIn memA) (by first | exact S.rd memA | exact S.rdIn memA) n B2.out HR.out).mono ?_); rintro e w9 ⟨cs9, F9, rfl, h9, n9, b9, f9⟩; replace S := S.new (aOwn tCh _ cs9 F9) h9 n9 b9 f9; clear h9 n9 b9 f9)
        (first | refine hK.out _ _ (S.sub subA) (fun _ => ?_) | (go_wp2_with fail; refine hK.out _ _ (S.sub subA) (fun _ => ?_)))
        clear hK K
        (try simp only [Act.put, List.setIfInBounds_toArray, List.set_cons_zero, List.set_cons_succ])
        refine tk 6 ?_
        (try simp only [Act.put, List.setIfInBounds_toArray, List.set_cons_zero, List.set_cons_succ])
        refine tk 7 ?_
        (try simp only [Act.put, List.setIfInBounds_toArray, List.set_cons_zero, List.set_cons_succ])
        refine tk 8 ?_
        (try simp only [Act.put, List.setIfInBounds_toArray, List.set_cons_zero, List.set_cons_succ])
        refine rdy1 10 (fun K hK => ?_)
        (first | refine rgS1 S ?_ | refine rgSt S ?_ | refine rgSp S ?_); clear S; intro w9 S
        (first | refine hK.out _ _ (S.sub subA) (fun _ => ?_) | (go_wp2_with fail; refine hK.out _ _ (S.sub subA) (fun _ => ?_)))
        clear hK K
        (try simp only [Act.put, List.setIfInBounds_toArray, List.set_cons_zero, List.set_cons_succ])
        refine tk 11 ?_
        (try simp only [Act.put, List.setIfInBounds_toArray, List.set_cons_zero, List.set_cons_succ])
        refine wpAnyH_done (by kernel_rfl) ?_ _
        refine NoPanic.normal ?_
        go_wp2_with (first | (go_at_call 24; (with_reducible refine (eqChain_c _ x _ _ (by first | exact S.rd memA | exact S.rdIn memA) (by first | exact S.rd memA | exact S.rdIn memA)).mono ?_); rintro e w9 ⟨rfl, f9⟩; replace S := S.fr f9; clear f9) | (go_at_call 26; (with_reducible refine (heldChain_c _ x _ 1 (by first | exact S.rd memA | exact S.rdIn memA) HX.out (by omega) (by omega)).mono ?_); rintro e w9 ⟨rfl, f9⟩; replace S := S.fr f9; clear f9) | ((with_reducible refine gate_box rfl ?_); refine aBx S ?_; clear S; intro g9 w9 z9 S) | ((with_reducible refine gate_alloc rfl ?_); refine aAl S ?_; clear S; intro g9 w9 z9 S) | ((with_reducible refine gate_load rfl ?_); first | refine aLd S ?_ | refine aPt S ?_ | refine aL1 S ?_) | ((with_reducible refine gate_st rfl ?_); (first | refine aS1 S ?_ | refine aSt S ?_ | refine aSp S ?_); clear S; intro w9 S))
        go_ret
        exact ⟨rfl, S.frame⟩
      refine rdc 9 (fun K hK => ?_) AllReadyH.nil
      refine rgAl S ?_; clear S; intro g9 w9 z9 S
      (first | refine hK.out _ _ (S.sub subA) (fun _ => ?_) | (go_wp2_with fail; refine hK.out _ _ (S.sub subA) (fun _ => ?_)))
      clear hK K
      (try simp only [Act.put, List.setIfInBounds_toArray, List.set_cons_zero, List.set_cons_succ])
      refine rdy1 3 (fun K hK => ?_)
      go_simp; (skip; go_at_call 52; (with_reducible refine (toState_c _ o _ (FIN1.out _ S.frame) HM1.out).mono ?_); rintro e w9 ⟨cs9, F9, rfl, h9, n9, b9, f9⟩; replace S := S.new (aOwn tSt _ cs9 F9) h9 n9 b9 f9; clear h9 n9 b9 f9)
      (first | refine hK.out _ _ (S.sub subA) (fun _ => ?_) | (go_wp2_with fail; refine hK.out _ _ (S.sub subA) (fun _ => ?_)))
      clear hK K
      (try simp only [Act.put, List.setIfInBounds_toArray, List.set_cons_zero, List.set_cons_succ])
      refine rdy1 5 (fun K hK => ?_)
      go_simp; (skip; go_at_call 55; (with_reducible refine (RelayTell_e _ s o _ _ (by first | exact S.rd memA | exact S.rdIn memA) (by first | exact S.rd memA | exact S.rdIn memA) n B2.out HR.out).mono ?_); rintro e w9 ⟨cs9, F9, rfl, h9, n9, b9, f9⟩; replace S := S.new (aOwn tCh _ cs9 F9) h9 n9 b9 f9; clear h9 n9 b9 f9)
      (first | refine hK.out _ _ (S.sub subA) (fun _ => ?_) | (go_wp2_with fail; refine hK.out _ _ (S.sub subA) (fun _ => ?_)))
      clear hK K
      (try simp only [Act.put, List.setIfInBounds_toArray, List.set_cons_zero, List.set_cons_succ])
      refine tk 6 ?_
      (try simp only [Act.put, List.setIfInBounds_toArray, List.set_cons_zero, List.set_cons_succ])
      refine tk 7 ?_
      (try simp only [Act.put, List.setIfInBounds_toArray, List.set_cons_zero, List.set_cons_succ])
      refine tk 8 ?_
      (try simp only [Act.put, List.setIfInBounds_toArray, List.set_cons_zero, List.set_cons_succ])
      refine rdy1 10 (fun K hK => ?_)
      (first | refine rgS1 S ?_ | refine rgSt S ?_ | refine rgSp S ?_); clear S; intro w9 S
      (first | refine hK.out _ _ (S.sub subA) (fun _ => ?_) | (go_wp2_with fail; refine hK.out _ _ (S.sub subA) (fun _ => ?_)))
      clear hK K
      (try simp only [Act.put, List.setIfInBounds_toArray, List.set_cons_zero, List.set_cons_succ])
      refine tk 11 ?_
      (try simp only [Act.put, List.setIfInBounds_toArray, List.set_cons_zero, List.set_cons_succ])
      refine wpAnyH_done (by kernel_rfl) ?_ _
      refine NoPanic.normal ?_
      go_wp2_with (first | (go_at_call 24; (with_reducible refine (eqChain_c _ x _ _ (by first | exact S.rd memA | exact S.rdIn memA) (by first | exact S.rd memA | exact S.rdIn memA)).mono ?_); rintro e w9 ⟨rfl, f9⟩; replace S := S.fr f9; clear f9) | (go_at_call 26; (with_reducible refine (heldChain_c _ x _ 1 (by first | exact S.rd memA | exact S.rdIn memA) HX.out (by omega) (by omega)).mono ?_); rintro e w9 ⟨rfl, f9⟩; replace S := S.fr f9; clear f9) | ((with_reducible refine gate_box rfl ?_); refine aBx S ?_; clear S; intro g9 w9 z9 S) | ((with_reducible refine gate_alloc rfl ?_); refine aAl S ?_; clear S; intro g9 w9 z9 S) | ((with_reducible refine gate_load rfl ?_); first | refine aLd S ?_ | refine aPt S ?_ | refine aL1 S ?_) | ((with_reducible refine gate_st rfl ?_); (first | refine aS1 S ?_ | refine aSt S ?_ | refine aSp S ?_); clear S; intro w9 S))
      go_ret
      exact ⟨rfl, S.frame⟩
    refine rdc 9 (fun K hK => ?_) AllReadyH.nil
    refine rgAl S ?_; clear S; intro g9 w9 z9 S
    (first | refine hK.out _ _ (S.sub subA) (fun _ => ?_) | (go_wp2_with fail; refine hK.out _ _ (S.sub subA) (fun _ => ?_)))
    clear hK K
    (try simp only [Act.put, List.setIfInBounds_toArray, List.set_cons_zero, List.set_cons_succ])
    refine rdy1 1 (fun K hK => ?_)
    go_simp; (skip; go_at_call 34; (with_reducible refine (toChain_c _ s _ (FIN0.out _ S.frame) HM0.out).mono ?_); rintro e w9 ⟨cs9, F9, rfl, h9, n9, b9, f9⟩; replace S := S.new (aOwn tCh _ cs9 F9) h9 n9 b9 f9; clear h9 n9 b9 f9)
    (first | refine hK.out _ _ (S.sub subA) (fun _ => ?_) | (go_wp2_with fail; refine hK.out _ _ (S.sub subA) (fun _ => ?_)))
    clear hK K
    (try simp only [Act.put, List.setIfInBounds_toArray, List.set_cons_zero, List.set_cons_succ])
    refine rdy1 3 (fun K hK => ?_)
    go_simp; (skip; go_at_call 52; (with_reducible refine (toState_c _ o _ (FIN1.out _ S.frame) HM1.out).mono ?_); rintro e w9 ⟨cs9, F9, rfl, h9, n9, b9, f9⟩; replace S := S.new (aOwn tSt _ cs9 F9) h9 n9 b9 f9; clear h9 n9 b9 f9)
    (first | refine hK.out _ _ (S.sub subA) (fun _ => ?_) | (go_wp2_with fail; refine hK.out _ _ (S.sub subA) (fun _ => ?_)))
    clear hK K
    (try simp only [Act.put, List.setIfInBounds_toArray, List.set_cons_zero, List.set_cons_succ])
    refine rdy1 5 (fun K hK => ?_)
    go_simp; (skip; go_at_call 55; (with_reducible refine (RelayTell_e _ s o _ _ (by first | exact S.rd memA | exact S.rdIn memA) (by first | exact S.rd memA | exact S.rdIn memA) n B2.out HR.out).mono ?_); rintro e w9 ⟨cs9, F9, rfl, h9, n9, b9, f9⟩; replace S := S.new (aOwn tCh _ cs9 F9) h9 n9 b9 f9; clear h9 n9 b9 f9)
    (first | refine hK.out _ _ (S.sub subA) (fun _ => ?_) | (go_wp2_with fail; refine hK.out _ _ (S.sub subA) (fun _ => ?_)))
    clear hK K
    (try simp only [Act.put, List.setIfInBounds_toArray, List.set_cons_zero, List.set_cons_succ])
    refine tk 6 ?_
    (try simp only [Act.put, List.setIfInBounds_toArray, List.set_cons_zero, List.set_cons_succ])
    refine tk 7 ?_
    (try simp only [Act.put, List.setIfInBounds_toArray, List.set_cons_zero, List.set_cons_succ])
    refine tk 8 ?_
    (try simp only [Act.put, List.setIfInBounds_toArray, List.set_cons_zero, List.set_cons_succ])
    refine rdy1 10 (fun K hK => ?_)
    (first | refine rgS1 S ?_ | refine rgSt S ?_ | refine rgSp S ?_); clear S; intro w9 S
    (first | refine hK.out _ _ (S.sub subA) (fun _ => ?_) | (go_wp2_with fail; refine hK.out _ _ (S.sub subA) (fun _ => ?_)))
    clear hK K
    (try simp only [Act.put, List.setIfInBounds_toArray, List.set_cons_zero, List.set_cons_succ])
    refine tk 11 ?_
    (try simp only [Act.put, List.setIfInBounds_toArray, List.set_cons_zero, List.set_cons_succ])
    refine wpAnyH_done (by kernel_rfl) ?_ _
    refine NoPanic.normal ?_
    go_wp2_with (first | (go_at_call 24; (with_reducible refine (eqChain_c _ x _ _ (by first | exact S.rd memA | exact S.rdIn memA) (by first | exact S.rd memA | exact S.rdIn memA)).mono ?_); rintro e w9 ⟨rfl, f9⟩; replace S := S.fr f9; clear f9) | (go_at_call 26; (with_reducible refine (heldChain_c _ x _ 1 (by first | exact S.rd memA | exact S.rdIn memA) HX.out (by omega) (by omega)).mono ?_); rintro e w9 ⟨rfl, f9⟩; replace S := S.fr f9; clear f9) | ((with_reducible refine gate_box rfl ?_); refine aBx S ?_; clear S; intro g9 w9 z9 S) | ((with_reducible refine gate_alloc rfl ?_); refine aAl S ?_; clear S; intro g9 w9 z9 S) | ((with_reducible refine gate_load rfl ?_); first | refine aLd S ?_ | refine aPt S ?_ | refine aL1 S ?_) | ((with_reducible refine gate_st rfl ?_); (first | refine aS1 S ?_ | refine aSt S ?_ | refine aSp S ?_); clear S; intro w9 S))
    go_ret
    exact ⟨rfl, S.frame⟩
  refine rdc 9 (fun K hK => ?_) AllReadyH.nil
  refine rgAl S ?_; clear S; intro g9 w9 z9 S
  (first | refine hK.out _ _ (S.sub subA) (fun _ => ?_) | (go_wp2_with fail; refine hK.out _ _ (S.sub subA) (fun _ => ?_)))
  clear hK K
  (try simp only [Act.put, List.setIfInBounds_toArray, List.set_cons_zero, List.set_cons_succ])
  refine rdy1 1 (fun K hK => ?_)
  go_simp; (skip; go_at_call 34; (with_reducible refine (toChain_c _ s _ (FIN0.out _ S.frame) HM0.out).mono ?_); rintro e w9 ⟨cs9, F9, rfl, h9, n9, b9, f9⟩; replace S := S.new (aOwn tCh _ cs9 F9) h9 n9 b9 f9; clear h9 n9 b9 f9)
  (first | refine hK.out _ _ (S.sub subA) (fun _ => ?_) | (go_wp2_with fail; refine hK.out _ _ (S.sub subA) (fun _ => ?_)))
  clear hK K
  (try simp only [Act.put, List.setIfInBounds_toArray, List.set_cons_zero, List.set_cons_succ])
  refine rdy1 3 (fun K hK => ?_)
  go_simp; (skip; go_at_call 52; (with_reducible refine (toState_c _ o _ (FIN1.out _ S.frame) HM1.out).mono ?_); rintro e w9 ⟨cs9, F9, rfl, h9, n9, b9, f9⟩; replace S := S.new (aOwn tSt _ cs9 F9) h9 n9 b9 f9; clear h9 n9 b9 f9)
  (first | refine hK.out _ _ (S.sub subA) (fun _ => ?_) | (go_wp2_with fail; refine hK.out _ _ (S.sub subA) (fun _ => ?_)))
  clear hK K
  (try simp only [Act.put, List.setIfInBounds_toArray, List.set_cons_zero, List.set_cons_succ])
  refine rdy1 5 (fun K hK => ?_)
  go_simp; (skip; go_at_call 54; (with_reducible refine (sRelayTell_e _ s o _ _ (by first | exact S.rd memA | exact S.rdIn memA) (by first | exact S.rd memA | exact S.rdIn memA) n B2.out HR.out).mono ?_); rintro e w9 ⟨cs9, F9, rfl, h9, n9, b9, f9⟩; replace S := S.new (aOwn tCh _ cs9 F9) h9 n9 b9 f9; clear h9 n9 b9 f9)
  (first | refine hK.out _ _ (S.sub subA) (fun _ => ?_) | (go_wp2_with fail; refine hK.out _ _ (S.sub subA) (fun _ => ?_)))
  clear hK K
  (try simp only [Act.put, List.setIfInBounds_toArray, List.set_cons_zero, List.set_cons_succ])
  refine tk 6 ?_
  (try simp only [Act.put, List.setIfInBounds_toArray, List.set_cons_zero, List.set_cons_succ])
  refine tk 7 ?_
  (try simp only [Act.put, List.setIfInBounds_toArray, List.set_cons_zero, List.set_cons_succ])
  refine tk 8 ?_
  (try simp only [Act.put, List.setIfInBounds_toArray, List.set_cons_zero, List.set_cons_succ])
  refine rdy1 10 (fun K hK => ?_)
  (first | refine rgS1 S ?_ | refine rgSt S ?_ | refine rgSp S ?_); clear S; intro w9 S
  (first | refine hK.out _ _ (S.sub subA) (fun _ => ?_) | (go_wp2_with fail; refine hK.out _ _ (S.sub subA) (fun _ => ?_)))
  clear hK K
  (try simp only [Act.put, List.setIfInBounds_toArray, List.set_cons_zero, List.set_cons_succ])
  refine tk 11 ?_
  (try simp only [Act.put, List.setIfInBounds_toArray, List.set_cons_zero, List.set_cons_succ])
  refine wpAnyH_done (by kernel_rfl) ?_ _
  refine NoPanic.normal ?_
  go_wp2_with (first | (go_at_call 34; (with_reducible refine (toChain_c _ s _ (FIN0.out _ S.frame) HM0.out).mono ?_); rintro e w9 ⟨cs9, F9, rfl, h9, n9, b9, f9⟩; replace S := S.new (aOwn tCh _ cs9 F9) h9 n9 b9 f9; clear h9 n9 b9 f9) | (go_at_call 52; (with_reducible refine (toState_c _ o _ (FIN1.out _ S.frame) HM1.out).mono ?_); rintro e w9 ⟨cs9, F9, rfl, h9, n9, b9, f9⟩; replace S := S.new (aOwn tSt _ cs9 F9) h9 n9 b9 f9; clear h9 n9 b9 f9) | (go_at_call 55; (with_reducible refine (RelayTell_e _ s o _ _ (by first | exact S.rd memA | exact S.rdIn memA) (by first | exact S.rd memA | exact S.rdIn memA) n B2.out HR.out).mono ?_); rintro e w9 ⟨cs9, F9, rfl, h9, n9, b9, f9⟩; replace S := S.new (aOwn tCh _ cs9 F9) h9 n9 b9 f9; clear h9 n9 b9 f9) | (go_at_call 24; (with_reducible refine (eqChain_c _ x _ _ (by first | exact S.rd memA | exact S.rdIn memA) (by first | exact S.rd memA | exact S.rdIn memA)).mono ?_); rintro e w9 ⟨rfl, f9⟩; replace S := S.fr f9; clear f9) | ((with_reducible refine gate_box rfl ?_); refine aBx S ?_; clear S; intro g9 w9 z9 S) | ((with_reducible refine gate_alloc rfl ?_); refine aAl S ?_; clear S; intro g9 w9 z9 S) | ((with_reducible refine gate_load rfl ?_); first | refine aLd S ?_ | refine aPt S ?_ | refine aL1 S ?_) | ((with_reducible refine gate_st rfl ?_); (first | refine aS1 S ?_ | refine aSt S ?_ | refine aSp S ?_); clear S; intro w9 S))
  have S0 := S
  refine wp_region_noPanic ?_
  refine wp_region_held_drew (S := Sep _ _ _) (by kernel_rfl) S0.drew (fun _ => ?_)
  replace S := S.drew
  clear S0
  refine tk 0 ?_
  (try simp only [Act.put, List.setIfInBounds_toArray, List.set_cons_zero, List.set_cons_succ])
  refine tk 1 ?_
  (try simp only [Act.put, List.setIfInBounds_toArray, List.set_cons_zero, List.set_cons_succ])
  refine rdy1 2 (fun K hK => ?_)
  go_simp; (skip; go_at_call 34; (with_reducible refine (toChain_c _ s _ (FIN0.out _ S.frame) HM0.out).mono ?_); rintro e w9 ⟨cs9, F9, rfl, h9, n9, b9, f9⟩; replace S := S.new (aOwn tCh _ cs9 F9) h9 n9 b9 f9; clear h9 n9 b9 f9)
  (first | refine hK.out _ _ (S.sub subA) (fun _ => ?_) | (go_wp2_with fail; refine hK.out _ _ (S.sub subA) (fun _ => ?_)))
  clear hK K
  (try simp only [Act.put, List.setIfInBounds_toArray, List.set_cons_zero, List.set_cons_succ])
  refine rdy1 3 (fun K hK => ?_)
  go_simp; (skip; go_at_call 24; (with_reducible refine (eqChain_c _ s _ _ (by first | exact S.rd memA | exact S.rdIn memA) (by first | exact S.rd memA | exact S.rdIn memA)).mono ?_); rintro e w9 ⟨rfl, f9⟩; replace S := S.fr f9; clear f9)
  (first | refine hK.out _ _ (S.sub subA) (fun _ => ?_) | (go_wp2_with fail; refine hK.out _ _ (S.sub subA) (fun _ => ?_)))
  clear hK K
  (try simp only [Act.put, List.setIfInBounds_toArray, List.set_cons_zero, List.set_cons_succ])
  refine tk 4 ?_
  (try simp only [Act.put, List.setIfInBounds_toArray, List.set_cons_zero, List.set_cons_succ])
  refine wpAnyH_done (by kernel_rfl) ?_ _
  refine NoPanic.normal ?_
  go_wp2_with (first | ((with_reducible refine gate_box rfl ?_); refine aBx S ?_; clear S; intro g9 w9 z9 S) | ((with_reducible refine gate_alloc rfl ?_); refine aAl S ?_; clear S; intro g9 w9 z9 S) | ((with_reducible refine gate_load rfl ?_); first | refine aLd S ?_ | refine aPt S ?_ | refine aL1 S ?_) | ((with_reducible refine gate_st rfl ?_); (first | refine aS1 S ?_ | refine aSt S ?_ | refine aSp S ?_); clear S; intro w9 S))
  have S0 := S
  refine wp_region_noPanic ?_
  refine wp_region_held_drew (S := Sep _ _ _) (by kernel_rfl) S0.drew (fun _ => ?_)
  replace S := S.drew
  clear S0
  refine tk 0 ?_
  (try simp only [Act.put, List.setIfInBounds_toArray, List.set_cons_zero, List.set_cons_succ])
  refine tk 1 ?_
  (try simp only [Act.put, List.setIfInBounds_toArray, List.set_cons_zero, List.set_cons_succ])
  refine rdy1 2 (fun K hK => ?_)
  go_simp; (skip; go_at_call 52; (with_reducible refine (toState_c _ o _ (FIN1.out _ S.frame) HM1.out).mono ?_); rintro e w9 ⟨cs9, F9, rfl, h9, n9, b9, f9⟩; replace S := S.new (aOwn tSt _ cs9 F9) h9 n9 b9 f9; clear h9 n9 b9 f9)
  (first | refine hK.out _ _ (S.sub subA) (fun _ => ?_) | (go_wp2_with fail; refine hK.out _ _ (S.sub subA) (fun _ => ?_)))
  clear hK K
  (try simp only [Act.put, List.setIfInBounds_toArray, List.set_cons_zero, List.set_cons_succ])
  refine rdy1 3 (fun K hK => ?_)
  go_simp; (skip; go_at_call 43; (with_reducible refine (eqState_c _ o _ _ (by first | exact S.rd memA | exact S.rdIn memA) (by first | exact S.rd memA | exact S.rdIn memA)).mono ?_); rintro e w9 ⟨rfl, f9⟩; replace S := S.fr f9; clear f9)
  (first | refine hK.out _ _ (S.sub subA) (fun _ => ?_) | (go_wp2_with fail; refine hK.out _ _ (S.sub subA) (fun _ => ?_)))
  clear hK K
  (try simp only [Act.put, List.setIfInBounds_toArray, List.set_cons_zero, List.set_cons_succ])
  refine tk 4 ?_
  (try simp only [Act.put, List.setIfInBounds_toArray, List.set_cons_zero, List.set_cons_succ])
  refine wpAnyH_done (by kernel_rfl) ?_ _
  refine NoPanic.normal ?_
  go_wp2_with (first | (go_at_call 25; (with_reducible refine (markChain_b _ s _ _ (1) (cntCh_past HM0.out) (S.both memA) (by omega) (by omega)).mono ?_); rintro e w9 ⟨rfl, h9, c9⟩; replace S := S.putOwn putA h9 c9; clear h9 c9) | (go_at_call 44; (with_reducible refine (markState_b _ o _ _ (1 + (cntMCh s : Int)) (S.both memA) (by omega) (by omega)).mono ?_); rintro e w9 ⟨rfl, h9, c9⟩; replace S := S.putOwn putA h9 c9; clear h9 c9) | (go_at_call 24; (with_reducible refine (eqChain_c _ x _ _ (by first | exact S.rd memA | exact S.rdIn memA) (by first | exact S.rd memA | exact S.rdIn memA)).mono ?_); rintro e w9 ⟨rfl, f9⟩; replace S := S.fr f9; clear f9) | (go_at_call 25; (with_reducible refine (markChain_b _ x _ _ (1) (smallCh_past HX.out) (S.both memA) (by omega) (by omega)).mono ?_); rintro e w9 ⟨rfl, h9, c9⟩; replace S := S.putOwn putA h9 c9; clear h9 c9) | (go_at_call 26; (with_reducible refine (heldChain_c _ x _ 1 (by first | exact S.rd memA | exact S.rdIn memA) HX.out (by omega) (by omega)).mono ?_); rintro e w9 ⟨rfl, f9⟩; replace S := S.fr f9; clear f9) | ((with_reducible refine gate_box rfl ?_); refine aBx S ?_; clear S; intro g9 w9 z9 S) | ((with_reducible refine gate_alloc rfl ?_); refine aAl S ?_; clear S; intro g9 w9 z9 S) | ((with_reducible refine gate_load rfl ?_); first | refine aLd S ?_ | refine aPt S ?_ | refine aL1 S ?_) | ((with_reducible refine gate_st rfl ?_); (first | refine aS1 S ?_ | refine aSt S ?_ | refine aSp S ?_); clear S; intro w9 S))
  have S0 := S
  refine wp_region_noPanic ?_
  refine wp_region_held_drew (S := Sep _ _ _) (by kernel_rfl) S0.drew (fun _ => ?_)
  replace S := S.drew
  clear S0
  refine tk 0 ?_
  (try simp only [Act.put, List.setIfInBounds_toArray, List.set_cons_zero, List.set_cons_succ])
  refine tk 2 ?_
  (try simp only [Act.put, List.setIfInBounds_toArray, List.set_cons_zero, List.set_cons_succ])
  refine tk 4 ?_
  (try simp only [Act.put, List.setIfInBounds_toArray, List.set_cons_zero, List.set_cons_succ])
  refine rdys [1, 9] ?_
  refine rdc 1 (fun K hK => ?_) ?_
  · go_simp; (skip; go_at_call 34; (with_reducible refine (toChain_c _ s _ (FIN0.out _ S.frame) HM0.out).mono ?_); rintro e w9 ⟨cs9, F9, rfl, h9, n9, b9, f9⟩; replace S := S.new (aOwn tCh _ cs9 F9) h9 n9 b9 f9; clear h9 n9 b9 f9)
    (first | refine hK.out _ _ (S.sub subA) (fun _ => ?_) | (go_wp2_with fail; refine hK.out _ _ (S.sub subA) (fun _ => ?_)))
    clear hK K
    (try simp only [Act.put, List.setIfInBounds_toArray, List.set_cons_zero, List.set_cons_succ])
    refine rdys [3, 9] ?_
    refine rdc 3 (fun K hK => ?_) ?_
    · go_simp; (skip; go_at_call 52; (with_reducible refine (toState_c _ o _ (FIN1.out _ S.frame) HM1.out).mono ?_); rintro e w9 ⟨cs9, F9, rfl, h9, n9, b9, f9⟩; replace S := S.new (aOwn tSt _ cs9 F9) h9 n9 b9 f9; clear h9 n9 b9 f9)
      (first | refine hK.out _ _ (S.sub subA) (fun _ => ?_) | (go_wp2_with fail; refine hK.out _ _ (S.sub subA) (fun _ => ?_)))
      clear hK K
      (try simp only [Act.put, List.setIfInBounds_toArray, List.set_cons_zero, List.set_cons_succ])
      refine rdys [5, 9] ?_
      refine rdc 5 (fun K hK => ?_) ?_
      · go_simp; (skip; go_at_call 55; (with_reducible refine (RelayTell_e _ s o _ _ (by first | exact S.rd memA | exact S.rdIn memA) (by first | exact S.rd memA | exact S.rdIn memA) n B2.out HR.out).mono ?_); rintro e w9 ⟨cs9, F9, rfl, h9, n9, b9, f9⟩; replace S := S.new (aOwn tCh _ cs9 F9) h9 n9 b9 f9; clear h9 n9 b9 f9)
        (first | refine hK.out _ _ (S.sub subA) (fun _ => ?_) | (go_wp2_with fail; refine hK.out _ _ (S.sub subA) (fun _ => ?_)))
        clear hK K
        (try simp only [Act.put, List.setIfInBounds_toArray, List.set_cons_zero, List.set_cons_succ])
        refine tk 6 ?_
        (try simp only [Act.put, List.setIfInBounds_toArray, List.set_cons_zero, List.set_cons_succ])
        refine tk 7 ?_
        (try simp only [Act.put, List.setIfInBounds_toArray, List.set_cons_zero, List.set_cons_succ])
        refine tk 8 ?_
        (try simp only [Act.put, List.setIfInBounds_toArray, List.set_cons_zero, List.set_cons_succ])
        refine rdy1 9 (fun K hK => ?_)
        refine rgAl S ?_; clear S; intro g9 w9 z9 S
        (first | refine hK.out _ _ (S.sub subA) (fun _ => ?_) | (go_wp2_with fail; refine hK.out _ _ (S.sub subA) (fun _ => ?_)))
        clear hK K
        (try simp only [Act.put, List.setIfInBounds_toArray, List.set_cons_zero, List.set_cons_succ])
        refine rdy1 10 (fun K hK => ?_)
        (first | refine rgS1 S ?_ | refine rgSt S ?_ | refine rgSp S ?_); clear S; intro w9 S
        (first | refine hK.out _ _ (S.sub subA) (fun _ => ?_) | (go_wp2_with fail; refine hK.out _ _ (S.sub subA) (fun _ => ?_)))
        clear hK K
        (try simp only [Act.put, List.setIfInBounds_toArray, List.set_cons_zero, List.set_cons_succ])
        refine tk 11 ?_
        (try simp only [Act.put, List.setIfInBounds_toArray, List.set_cons_zero, List.set_cons_succ])
        refine wpAnyH_done (by kernel_rfl) ?_ _
        refine NoPanic.normal ?_
        go_wp2_with (first | (go_at_call 24; (with_reducible refine (eqChain_c _ x _ _ (by first | exact S.rd memA | exact S.rdIn memA) (by first | exact S.rd memA | exact S.rdIn memA)).mono ?_); rintro e w9 ⟨rfl, f9⟩; replace S := S.fr f9; clear f9) | (go_at_call 26; (with_reducible refine (heldChain_c _ x _ 1 (by first | exact S.rd memA | exact S.rdIn memA) HX.out (by omega) (by omega)).mono ?_); rintro e w9 ⟨rfl, f9⟩; replace S := S.fr f9; clear f9) | ((with_reducible refine gate_box rfl ?_); refine aBx S ?_; clear S; intro g9 w9 z9 S) | ((with_reducible refine gate_alloc rfl ?_); refine aAl S ?_; clear S; intro g9 w9 z9 S) | ((with_reducible refine gate_load rfl ?_); first | refine aLd S ?_ | refine aPt S ?_ | refine aL1 S ?_) | ((with_reducible refine gate_st rfl ?_); (first | refine aS1 S ?_ | refine aSt S ?_ | refine aSp S ?_); clear S; intro w9 S))
        go_ret
        exact ⟨rfl, S.frame⟩
      refine rdc 9 (fun K hK => ?_) AllReadyH.nil
      refine rgAl S ?_; clear S; intro g9 w9 z9 S
      (first | refine hK.out _ _ (S.sub subA) (fun _ => ?_) | (go_wp2_with fail; refine hK.out _ _ (S.sub subA) (fun _ => ?_)))
      clear hK K
      (try simp only [Act.put, List.setIfInBounds_toArray, List.set_cons_zero, List.set_cons_succ])
      refine rdy1 5 (fun K hK => ?_)
      go_simp; (skip; go_at_call 55; (with_reducible refine (RelayTell_e _ s o _ _ (by first | exact S.rd memA | exact S.rdIn memA) (by first | exact S.rd memA | exact S.rdIn memA) n B2.out HR.out).mono ?_); rintro e w9 ⟨cs9, F9, rfl, h9, n9, b9, f9⟩; replace S := S.new (aOwn tCh _ cs9 F9) h9 n9 b9 f9; clear h9 n9 b9 f9)
      (first | refine hK.out _ _ (S.sub subA) (fun _ => ?_) | (go_wp2_with fail; refine hK.out _ _ (S.sub subA) (fun _ => ?_)))
      clear hK K
      (try simp only [Act.put, List.setIfInBounds_toArray, List.set_cons_zero, List.set_cons_succ])
      refine tk 6 ?_
      (try simp only [Act.put, List.setIfInBounds_toArray, List.set_cons_zero, List.set_cons_succ])
      refine tk 7 ?_
      (try simp only [Act.put, List.setIfInBounds_toArray, List.set_cons_zero, List.set_cons_succ])
      refine tk 8 ?_
      (try simp only [Act.put, List.setIfInBounds_toArray, List.set_cons_zero, List.set_cons_succ])
      refine rdy1 10 (fun K hK => ?_)
      (first | refine rgS1 S ?_ | refine rgSt S ?_ | refine rgSp S ?_); clear S; intro w9 S
      (first | refine hK.out _ _ (S.sub subA) (fun _ => ?_) | (go_wp2_with fail; refine hK.out _ _ (S.sub subA) (fun _ => ?_)))
      clear hK K
      (try simp only [Act.put, List.setIfInBounds_toArray, List.set_cons_zero, List.set_cons_succ])
      refine tk 11 ?_
      (try simp only [Act.put, List.setIfInBounds_toArray, List.set_cons_zero, List.set_cons_succ])
      refine wpAnyH_done (by kernel_rfl) ?_ _
      refine NoPanic.normal ?_
      go_wp2_with (first | (go_at_call 24; (with_reducible refine (eqChain_c _ x _ _ (by first | exact S.rd memA | exact S.rdIn memA) (by first | exact S.rd memA | exact S.rdIn memA)).mono ?_); rintro e w9 ⟨rfl, f9⟩; replace S := S.fr f9; clear f9) | (go_at_call 26; (with_reducible refine (heldChain_c _ x _ 1 (by first | exact S.rd memA | exact S.rdIn memA) HX.out (by omega) (by omega)).mono ?_); rintro e w9 ⟨rfl, f9⟩; replace S := S.fr f9; clear f9) | ((with_reducible refine gate_box rfl ?_); refine aBx S ?_; clear S; intro g9 w9 z9 S) | ((with_reducible refine gate_alloc rfl ?_); refine aAl S ?_; clear S; intro g9 w9 z9 S) | ((with_reducible refine gate_load rfl ?_); first | refine aLd S ?_ | refine aPt S ?_ | refine aL1 S ?_) | ((with_reducible refine gate_st rfl ?_); (first | refine aS1 S ?_ | refine aSt S ?_ | refine aSp S ?_); clear S; intro w9 S))
      go_ret
      exact ⟨rfl, S.frame⟩
    refine rdc 9 (fun K hK => ?_) AllReadyH.nil
    refine rgAl S ?_; clear S; intro g9 w9 z9 S
    (first | refine hK.out _ _ (S.sub subA) (fun _ => ?_) | (go_wp2_with fail; refine hK.out _ _ (S.sub subA) (fun _ => ?_)))
    clear hK K
    (try simp only [Act.put, List.setIfInBounds_toArray, List.set_cons_zero, List.set_cons_succ])
    refine rdy1 3 (fun K hK => ?_)
    go_simp; (skip; go_at_call 52; (with_reducible refine (toState_c _ o _ (FIN1.out _ S.frame) HM1.out).mono ?_); rintro e w9 ⟨cs9, F9, rfl, h9, n9, b9, f9⟩; replace S := S.new (aOwn tSt _ cs9 F9) h9 n9 b9 f9; clear h9 n9 b9 f9)
    (first | refine hK.out _ _ (S.sub subA) (fun _ => ?_) | (go_wp2_with fail; refine hK.out _ _ (S.sub subA) (fun _ => ?_)))
    clear hK K
    (try simp only [Act.put, List.setIfInBounds_toArray, List.set_cons_zero, List.set_cons_succ])
    refine rdy1 5 (fun K hK => ?_)
    go_simp; (skip; go_at_call 55; (with_reducible refine (RelayTell_e _ s o _ _ (by first | exact S.rd memA | exact S.rdIn memA) (by first | exact S.rd memA | exact S.rdIn memA) n B2.out HR.out).mono ?_); rintro e w9 ⟨cs9, F9, rfl, h9, n9, b9, f9⟩; replace S := S.new (aOwn tCh _ cs9 F9) h9 n9 b9 f9; clear h9 n9 b9 f9)
    (first | refine hK.out _ _ (S.sub subA) (fun _ => ?_) | (go_wp2_with fail; refine hK.out _ _ (S.sub subA) (fun _ => ?_)))
    clear hK K
    (try simp only [Act.put, List.setIfInBounds_toArray, List.set_cons_zero, List.set_cons_succ])
    refine tk 6 ?_
    (try simp only [Act.put, List.setIfInBounds_toArray, List.set_cons_zero, List.set_cons_succ])
    refine tk 7 ?_
    (try simp only [Act.put, List.setIfInBounds_toArray, List.set_cons_zero, List.set_cons_succ])
    refine tk 8 ?_
    (try simp only [Act.put, List.setIfInBounds_toArray, List.set_cons_zero, List.set_cons_succ])
    refine rdy1 10 (fun K hK => ?_)
    (first | refine rgS1 S ?_ | refine rgSt S ?_ | refine rgSp S ?_); clear S; intro w9 S
    (first | refine hK.out _ _ (S.sub subA) (fun _ => ?_) | (go_wp2_with fail; refine hK.out _ _ (S.sub subA) (fun _ => ?_)))
    clear hK K
    (try simp only [Act.put, List.setIfInBounds_toArray, List.set_cons_zero, List.set_cons_succ])
    refine tk 11 ?_
    (try simp only [Act.put, List.setIfInBounds_toArray, List.set_cons_zero, List.set_cons_succ])
    refine wpAnyH_done (by kernel_rfl) ?_ _
    refine NoPanic.normal ?_
    go_wp2_with (first | (go_at_call 24; (with_reducible refine (eqChain_c _ x _ _ (by first | exact S.rd memA | exact S.rdIn memA) (by first | exact S.rd memA | exact S.rdIn memA)).mono ?_); rintro e w9 ⟨rfl, f9⟩; replace S := S.fr f9; clear f9) | (go_at_call 26; (with_reducible refine (heldChain_c _ x _ 1 (by first | exact S.rd memA | exact S.rdIn memA) HX.out (by omega) (by omega)).mono ?_); rintro e w9 ⟨rfl, f9⟩; replace S := S.fr f9; clear f9) | ((with_reducible refine gate_box rfl ?_); refine aBx S ?_; clear S; intro g9 w9 z9 S) | ((with_reducible refine gate_alloc rfl ?_); refine aAl S ?_; clear S; intro g9 w9 z9 S) | ((with_reducible refine gate_load rfl ?_); first | refine aLd S ?_ | refine aPt S ?_ | refine aL1 S ?_) | ((with_reducible refine gate_st rfl ?_); (first | refine aS1 S ?_ | refine aSt S ?_ | refine aSp S ?_); clear S; intro w9 S))
    go_ret
    exact ⟨rfl, S.frame⟩
  refine rdc 9 (fun K hK => ?_) AllReadyH.nil
  refine rgAl S ?_; clear S; intro g9 w9 z9 S
  (first | refine hK.out _ _ (S.sub subA) (fun _ => ?_) | (go_wp2_with fail; refine hK.out _ _ (S.sub subA) (fun _ => ?_)))
  clear hK K
  (try simp only [Act.put, List.setIfInBounds_toArray, List.set_cons_zero, List.set_cons_succ])
  refine rdy1 1 (fun K hK => ?_)
  go_simp; (skip; go_at_call 34; (with_reducible refine (toChain_c _ s _ (FIN0.out _ S.frame) HM0.out).mono ?_); rintro e w9 ⟨cs9, F9, rfl, h9, n9, b9, f9⟩; replace S := S.new (aOwn tCh _ cs9 F9) h9 n9 b9 f9; clear h9 n9 b9 f9)
  (first | refine hK.out _ _ (S.sub subA) (fun _ => ?_) | (go_wp2_with fail; refine hK.out _ _ (S.sub subA) (fun _ => ?_)))
  clear hK K
  (try simp only [Act.put, List.setIfInBounds_toArray, List.set_cons_zero, List.set_cons_succ])
  refine rdy1 3 (fun K hK => ?_)
  go_simp; (skip; go_at_call 52; (with_reducible refine (toState_c _ o _ (FIN1.out _ S.frame) HM1.out).mono ?_); rintro e w9 ⟨cs9, F9, rfl, h9, n9, b9, f9⟩; replace S := S.new (aOwn tSt _ cs9 F9) h9 n9 b9 f9; clear h9 n9 b9 f9)
  (first | refine hK.out _ _ (S.sub subA) (fun _ => ?_) | (go_wp2_with fail; refine hK.out _ _ (S.sub subA) (fun _ => ?_)))
  clear hK K
  (try simp only [Act.put, List.setIfInBounds_toArray, List.set_cons_zero, List.set_cons_succ])
  refine rdy1 5 (fun K hK => ?_)
  go_simp; (skip; go_at_call 55; (with_reducible refine (RelayTell_e _ s o _ _ (by first | exact S.rd memA | exact S.rdIn memA) (by first | exact S.rd memA | exact S.rdIn memA) n B2.out HR.out).mono ?_); rintro e w9 ⟨cs9, F9, rfl, h9, n9, b9, f9⟩; replace S := S.new (aOwn tCh _ cs9 F9) h9 n9 b9 f9; clear h9 n9 b9 f9)
  (first | refine hK.out _ _ (S.sub subA) (fun _ => ?_) | (go_wp2_with fail; refine hK.out _ _ (S.sub subA) (fun _ => ?_)))
  clear hK K
  (try simp only [Act.put, List.setIfInBounds_toArray, List.set_cons_zero, List.set_cons_succ])
  refine tk 6 ?_
  (try simp only [Act.put, List.setIfInBounds_toArray, List.set_cons_zero, List.set_cons_succ])
  refine tk 7 ?_
  (try simp only [Act.put, List.setIfInBounds_toArray, List.set_cons_zero, List.set_cons_succ])
  refine tk 8 ?_
  (try simp only [Act.put, List.setIfInBounds_toArray, List.set_cons_zero, List.set_cons_succ])
  refine rdy1 10 (fun K hK => ?_)
  (first | refine rgS1 S ?_ | refine rgSt S ?_ | refine rgSp S ?_); clear S; intro w9 S
  (first | refine hK.out _ _ (S.sub subA) (fun _ => ?_) | (go_wp2_with fail; refine hK.out _ _ (S.sub subA) (fun _ => ?_)))
  clear hK K
  (try simp only [Act.put, List.setIfInBounds_toArray, List.set_cons_zero, List.set_cons_succ])
  refine tk 11 ?_
  (try simp only [Act.put, List.setIfInBounds_toArray, List.set_cons_zero, List.set_cons_succ])
  refine wpAnyH_done (by kernel_rfl) ?_ _
  refine NoPanic.normal ?_
  go_wp2_with (first | (go_at_call 24; (with_reducible refine (eqChain_c _ x _ _ (by first | exact S.rd memA | exact S.rdIn memA) (by first | exact S.rd memA | exact S.rdIn memA)).mono ?_); rintro e w9 ⟨rfl, f9⟩; replace S := S.fr f9; clear f9) | (go_at_call 26; (with_reducible refine (heldChain_c _ x _ 1 (by first | exact S.rd memA | exact S.rdIn memA) HX.out (by omega) (by omega)).mono ?_); rintro e w9 ⟨rfl, f9⟩; replace S := S.fr f9; clear f9) | ((with_reducible refine gate_box rfl ?_); refine aBx S ?_; clear S; intro g9 w9 z9 S) | ((with_reducible refine gate_alloc rfl ?_); refine aAl S ?_; clear S; intro g9 w9 z9 S) | ((with_reducible refine gate_load rfl ?_); first | refine aLd S ?_ | refine aPt S ?_ | refine aL1 S ?_) | ((with_reducible refine gate_st rfl ?_); (first | refine aS1 S ?_ | refine aSt S ?_ | refine aSp S ?_); clear S; intro w9 S))
  go_ret
  exact ⟨rfl, S.frame⟩
end Go.Proofs.Ytapdcgjccckjeaa
