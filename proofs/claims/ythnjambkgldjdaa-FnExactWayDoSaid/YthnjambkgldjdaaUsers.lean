/- Numbers within bounds; users. -/
import Derived.Test.YthnjambkgldjdaaProg
import Derived.Test.YthnjambkgldjdaaBase
namespace Go.Proofs.Ythnjambkgldjdaa
set_option linter.unusedVariables false
set_option linter.unusedSimpArgs false
open Go.RowKit
theorem l6In_c (w : World) (n lo hi : Int) : Calls Try.prog 45 #[.int .i64 n, .int .i64 lo, .int .i64 hi] w fun e w' => e = .returned (.bool (decide (lo ≤ n ∧ n ≤ hi))) ∧ w = w' := by
  by_cases h1 : lo ≤ n
  all_goals
    by_cases h2 : n ≤ hi
    all_goals
      go_enter Try.func45, Try.ntmps45
      go_wp2
      go_ret
      exact ⟨by simp [h1, h2], rfl⟩
theorem l1User_c (w : World) (n : Int) : Calls Try.prog 62 #[.int .i64 n] w fun e w' => e = .returned (.bool (decide (1 ≤ n ∧ n ≤ 3))) ∧ w = w' := by
  go_enter Try.func62, Try.ntmps62
  go_wp2_with (go_at_call 45; (with_reducible refine (l6In_c _ _ _ _).mono ?_); rintro e w9 ⟨rfl, rfl⟩)
  go_ret
  exact ⟨ret_bool (by by_cases h1 : 1 ≤ n <;> by_cases h2 : n ≤ 3 <;> simp [h1, h2]), rfl⟩
theorem userOk_c (w : World) (n : Int) : Calls Try.prog 82 #[.int .i64 n] w fun e w' => e = .returned (.bool (decide (1 ≤ n ∧ n ≤ 3))) ∧ w = w' := by
  by_cases h1 : 1 ≤ n
  all_goals
    by_cases h2 : n ≤ 3
    all_goals
      go_enter Try.func82, Try.ntmps82
      go_wp2
      go_ret
      exact ⟨by simp [h1, h2], rfl⟩
end Go.Proofs.Ythnjambkgldjdaa
