/- The texts LawWorldNew. -/
import Derived.Test.YtapdcgjccckjeaaPkFnExactWorldNewF
namespace Go.Proofs.Ytapdcgjccckjeaa
set_option maxRecDepth 100000
set_option linter.unusedVariables false
set_option linter.unusedSimpArgs false
open Go.RowKit
set_option maxRecDepth 100000 in
set_option maxHeartbeats 6400000 in
theorem FnExactWorldNew_c (w : World)  : Calls Try.prog 5 #[] w (Ret (.bool true) w) := by
  have S := Sep.start w
  obtain ⟨x, hR⟩ : ∃ x, newWd = x := ⟨_, rfl⟩
  have HX := Lib.hid (newWd_small hR)
  have HR := Lib.hid hR
  have tx : decide ((1 : Int) + (cntMWd x : Int) < 0) = false := decide_eq_false (by omega)
  clear hR
  go_enter Try.func5, Try.ntmps5
  go_wp2_with (first | (go_at_call 27; (with_reducible refine (sWorldNew_e _ HR.out).mono ?_); rintro e w9 ⟨cs9, F9, rfl, h9, n9, b9, f9⟩; replace S := S.new (aOwn tWd _ cs9 F9) h9 n9 b9 f9; clear h9 n9 b9 f9) | (go_at_call 28; (with_reducible refine (WorldNew_e _ HR.out).mono ?_); rintro e w9 ⟨cs9, F9, rfl, h9, n9, b9, f9⟩; replace S := S.new (aOwn tWd _ cs9 F9) h9 n9 b9 f9; clear h9 n9 b9 f9) | (go_at_call 29; (with_reducible refine (eqWorld_c _ x _ _ (by first | exact S.rd memA | exact S.rdIn memA) (by first | exact S.rd memA | exact S.rdIn memA)).mono ?_); rintro e w9 ⟨rfl, f9⟩; replace S := S.fr f9; clear f9) | (go_at_call 30; (with_reducible refine (markWorld_b _ x _ _ (1) HX.out (S.both memA) (by omega) (by omega)).mono ?_); rintro e w9 ⟨rfl, h9, c9⟩; replace S := S.putOwn putA h9 c9; clear h9 c9) | (go_at_call 31; (with_reducible refine (heldWorld_c _ x _ 1 (by first | exact S.rd memA | exact S.rdIn memA) HX.out (by omega) (by omega)).mono ?_); rintro e w9 ⟨rfl, f9⟩; replace S := S.fr f9; clear f9) | ((with_reducible refine gate_box rfl ?_); refine aBx S ?_; clear S; intro g9 w9 z9 S) | ((with_reducible refine gate_alloc rfl ?_); refine aAl S ?_; clear S; intro g9 w9 z9 S) | ((with_reducible refine gate_load rfl ?_); first | refine aLd S ?_ | refine aPt S ?_ | refine aL1 S ?_) | ((with_reducible refine gate_st rfl ?_); (first | refine aS1 S ?_ | refine aSt S ?_ | refine aSp S ?_); clear S; intro w9 S))
  go_ret
  exact ⟨rfl, S.frame⟩
end Go.Proofs.Ytapdcgjccckjeaa
