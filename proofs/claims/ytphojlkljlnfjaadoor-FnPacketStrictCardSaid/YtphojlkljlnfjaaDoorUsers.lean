/- Numbers within bounds; users. -/
import Derived.Test.YtphojlkljlnfjaaDoorProg
import Derived.Test.YtphojlkljlnfjaaDoorBase
namespace Go.Proofs.YtphojlkljlnfjaaDoor
set_option maxRecDepth 100000
set_option linter.unusedVariables false
set_option linter.unusedSimpArgs false
open Go.RowKit
theorem l6In_c (w : World) (n lo hi : Int) : Calls Tryd.prog 37 #[.int .i64 n, .int .i64 lo, .int .i64 hi] w fun e w' => e = .returned (.bool (decide (lo ≤ n ∧ n ≤ hi))) ∧ w = w' := by
  by_cases h1 : lo ≤ n
  all_goals
    by_cases h2 : n ≤ hi
    all_goals
      go_enter Tryd.func37, Tryd.ntmps37
      go_wp2
      go_ret
      exact ⟨by simp [h1, h2], rfl⟩
theorem l1User_c (w : World) (n : Int) : Calls Tryd.prog 38 #[.int .i64 n] w fun e w' => e = .returned (.bool (decide (1 ≤ n ∧ n ≤ 3))) ∧ w = w' := by
  go_enter Tryd.func38, Tryd.ntmps38
  go_wp2_with (go_at_call 37; (with_reducible refine (l6In_c _ _ _ _).mono ?_); rintro e w9 ⟨rfl, rfl⟩)
  go_ret
  exact ⟨ret_bool (by by_cases h1 : 1 ≤ n <;> by_cases h2 : n ≤ 3 <;> simp [h1, h2]), rfl⟩
theorem userOk_c (w : World) (n : Int) : Calls Tryd.prog 34 #[.int .i64 n] w fun e w' => e = .returned (.bool (decide (1 ≤ n ∧ n ≤ 3))) ∧ w = w' := by
  by_cases h1 : 1 ≤ n
  all_goals
    by_cases h2 : n ≤ 3
    all_goals
      go_enter Tryd.func34, Tryd.ntmps34
      go_wp2
      go_ret
      exact ⟨by simp [h1, h2], rfl⟩
end Go.Proofs.YtphojlkljlnfjaaDoor
