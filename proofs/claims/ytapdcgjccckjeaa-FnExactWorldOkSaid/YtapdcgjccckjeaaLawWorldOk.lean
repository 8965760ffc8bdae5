/- The program's WorldOk returns what the reference's returns, for all arguments; nothing is shared. -/
import Derived.Test.YtapdcgjccckjeaaWdOk
namespace Go.Proofs.Ytapdcgjccckjeaa
set_option maxRecDepth 100000
set_option linter.unusedVariables false
set_option linter.unusedSimpArgs false
open Go.RowKit
set_option maxRecDepth 100000 in
set_option maxHeartbeats 6400000 in
theorem FnExactWorldOk_c (w : World) (s : Wd) (c0 : List Value) (h0 : tWd.rd w s c0) : Calls Try.prog 8 #[.agg c0.toArray] w (Ret (.bool true) w) := by
  have LN0 := Lib.hid (show c0.length = 1 from tWd.len h0)
  have Q0 := Lib.hid h0
  have FIN0 := Lib.hid (fun (W : World) (f : Fr w W) => tWd.fr f Q0.out)
  clear h0
  have S := Sep.start w
  by_cases e0 : cntWd s ≤ 1048576
  case neg =>
    have s0 := Lib.hid (szr_no (l := 1048576) (n := cntWd s) (by omega))
    clear e0
    go_enter Try.func8, Try.ntmps8
    go_wp2_with (first | (go_at_call 37; (with_reducible refine (szWorld_c _ s _ (1048576) (FIN0.out _ S.frame) (by omega) (by omega)).mono ?_); rintro e w9 ⟨rfl, f9⟩; rw [s0.out]; replace S := S.fr f9; clear f9) | ((with_reducible refine gate_box rfl ?_); refine aBx S ?_; clear S; intro g9 w9 z9 S) | ((with_reducible refine gate_alloc rfl ?_); refine aAl S ?_; clear S; intro g9 w9 z9 S) | ((with_reducible refine gate_load rfl ?_); first | refine aLd S ?_ | refine aPt S ?_ | refine aL1 S ?_) | ((with_reducible refine gate_st rfl ?_); (first | refine aS1 S ?_ | refine aSt S ?_ | refine aSp S ?_); clear S; intro w9 S))
    go_ret
    exact ⟨rfl, S.frame⟩
  have s0 := Lib.hid (szr_yes (l := 1048576) (n := cntWd s) (by omega))
  have HM0 := Lib.hid (show cntWd s ≤ 1048576 by omega)
  have z0 : (cntWd s : Int) ≤ 1048576 := by omega
  have t0 : decide (1048576 - (cntWd s : Int) < 0) = false := decide_eq_false (by omega)
  obtain ⟨r, hR⟩ : ∃ r, okWd s = r := ⟨_, rfl⟩
  have HR := Lib.hid hR
  clear hR
  clear e0
  go_enter Try.func8, Try.ntmps8
  go_wp2_with (first | (go_at_call 37; (with_reducible refine (szWorld_c _ s _ (1048576) (FIN0.out _ S.frame) (by omega) (by omega)).mono ?_); rintro e w9 ⟨rfl, f9⟩; rw [s0.out]; replace S := S.fr f9; clear f9) | (go_at_call 39; (with_reducible refine (toWorld_c _ s _ (FIN0.out _ S.frame) HM0.out).mono ?_); rintro e w9 ⟨cs9, F9, rfl, h9, n9, b9, f9⟩; replace S := S.new (aOwn tWd _ cs9 F9) h9 n9 b9 f9; clear h9 n9 b9 f9) | (go_at_call 38; (with_reducible refine (sWorldOk_r _ s _ (by first | exact S.rd memA | exact S.rdIn memA) HR.out).mono ?_); rintro e w9 ⟨rfl, f9⟩; replace S := S.fr f9; clear f9) | (go_at_call 40; (with_reducible refine (WorldOk_r _ s _ (by first | exact S.rd memA | exact S.rdIn memA) HR.out).mono ?_); rintro e w9 ⟨rfl, f9⟩; replace S := S.fr f9; clear f9) | ((with_reducible refine gate_box rfl ?_); refine aBx S ?_; clear S; intro g9 w9 z9 S) | ((with_reducible refine gate_alloc rfl ?_); refine aAl S ?_; clear S; intro g9 w9 z9 S) | ((with_reducible refine gate_load rfl ?_); first | refine aLd S ?_ | refine aPt S ?_ | refine aL1 S ?_) | ((with_reducible refine gate_st rfl ?_); (first | refine aS1 S ?_ | refine aSt S ?_ | refine aSp S ?_); clear S; intro w9 S))
  have S0 := S
  refine wp_region_noPanic ?_
  refine wp_region_held_drew (S := Sep _ _ _) (by kernel_rfl) S0.drew (fun _ => ?_)
  replace S := S.drew
  clear S0
  refine tk 0 ?_
  (try simp only [Act.put, List.setIfInBounds_toArray, List.set_cons_zero, List.set_cons_succ])
  refine tk 1 ?_
  (try simp only [Act.put, List.setIfInBounds_toArray, List.set_cons_zero, List.set_cons_succ])
  refine rdy1 2 (fun K hK => ?_)
  go_simp; (skip; go_at_call 39; (with_reducible refine (toWorld_c _ s _ (FIN0.out _ S.frame) HM0.out).mono ?_); rintro e w9 ⟨cs9, F9, rfl, h9, n9, b9, f9⟩; replace S := S.new (aOwn tWd _ cs9 F9) h9 n9 b9 f9; clear h9 n9 b9 f9)
  (first | refine hK.out _ _ (S.sub subA) (fun _ => ?_) | (go_wp2_with fail; refine hK.out _ _ (S.sub subA) (fun _ => ?_)))
  clear hK K
  (try simp only [Act.put, List.setIfInBounds_toArray, List.set_cons_zero, List.set_cons_succ])
  refine rdy1 3 (fun K hK => ?_)
  go_simp; (skip; go_at_call 29; (with_reducible refine (eqWorld_c _ s _ _ (by first | exact S.rd memA | exact S.rdIn memA) (by first | exact S.rd memA | exact S.rdIn memA)).mono ?_); rintro e w9 ⟨rfl, f9⟩; replace S := S.fr f9; clear f9)
  (first | refine hK.out _ _ (S.sub subA) (fun _ => ?_) | (go_wp2_with fail; refine hK.out _ _ (S.sub subA) (fun _ => ?_)))
  clear hK K
  (try simp only [Act.put, List.setIfInBounds_toArray, List.set_cons_zero, List.set_cons_succ])
  refine tk 4 ?_
  (try simp only [Act.put, List.setIfInBounds_toArray, List.set_cons_zero, List.set_cons_succ])
  refine wpAnyH_done (by kernel_rfl) ?_ _
  refine NoPanic.normal ?_
  go_wp2_with (first | ((with_reducible refine gate_box rfl ?_); refine aBx S ?_; clear S; intro g9 w9 z9 S) | ((with_reducible refine gate_alloc rfl ?_); refine aAl S ?_; clear S; intro g9 w9 z9 S) | ((with_reducible refine gate_load rfl ?_); first | refine aLd S ?_ | refine aPt S ?_ | refine aL1 S ?_) | ((with_reducible refine gate_st rfl ?_); (first | refine aS1 S ?_ | refine aSt S ?_ | refine aSp S ?_); clear S; intro w9 S))
  go_ret
  exact ⟨rfl, S.frame⟩
end Go.Proofs.Ytapdcgjccckjeaa
