/- The reference's reading of a number of one figure, or two. -/
import Derived.Test.YtphojlkljlnfjaaDoorDec
namespace Go.Proofs.YtphojlkljlnfjaaDoor
set_option maxRecDepth 100000
set_option linter.unusedVariables false
set_option linter.unusedSimpArgs false
open Go.RowKit
theorem idxL1 (a : UInt8) (w : World) : (Instr.index 9 (.string ⟨#[a]⟩) (.int .i64 0)).run Tryd.prog w = .ok (.int .u8 (a.toNat : Int)) w := by kernel_rfl
theorem idxL2 (a b : UInt8) (w : World) : (Instr.index 9 (.string ⟨#[a, b]⟩) (.int .i64 0)).run Tryd.prog w = .ok (.int .u8 (a.toNat : Int)) w := by kernel_rfl
theorem idxL3 (a b : UInt8) (w : World) : (Instr.index 9 (.string ⟨#[a, b]⟩) (.int .i64 1)).run Tryd.prog w = .ok (.int .u8 (b.toNat : Int)) w := by kernel_rfl
set_option maxHeartbeats 1600000 in
theorem l2Dec_1lo (w : World) (a : UInt8) (ha : a.toNat < 48) : Calls Tryd.prog 31 #[.string ⟨#[a]⟩] w (Ret (.int .i64 (-1)) w) := by
  have f := Fr.refl w
  have iidxL1 := idxL1 a
  have da1 : decide ((a.toNat : Int) < 48) = true := decide_eq_true (by omega)
  have n1 : IntKind.i64.wrap 1 = 1 := by decide
  have n2 : IntKind.i64.wrap 2 = 2 := by decide
  have n0 : IntKind.i64.wrap 0 = 0 := by decide
  go_enter Tryd.func31, Tryd.ntmps31
  go_wp2_with (first | (go_at_call 37; go_loud ((with_reducible refine (l6In_c _ _ _ _).mono ?_); rintro e w9 ⟨rfl, rfl⟩)))
  refine wp_loop_rounds 3 ?_
  rw [rounds_succ]
  go_wp2
  go_ret
  exact ⟨rfl, f⟩
set_option maxHeartbeats 1600000 in
theorem l2Dec_1hi (w : World) (a : UInt8) (ha : 57 < a.toNat) : Calls Tryd.prog 31 #[.string ⟨#[a]⟩] w (Ret (.int .i64 (-1)) w) := by
  have f := Fr.refl w
  have iidxL1 := idxL1 a
  have da1 : decide ((a.toNat : Int) < 48) = false := decide_eq_false (by omega)
  have da2 : decide ((57 : Int) < (a.toNat : Int)) = true := decide_eq_true (by omega)
  have n1 : IntKind.i64.wrap 1 = 1 := by decide
  have n2 : IntKind.i64.wrap 2 = 2 := by decide
  have n0 : IntKind.i64.wrap 0 = 0 := by decide
  go_enter Tryd.func31, Tryd.ntmps31
  go_wp2_with (first | (go_at_call 37; go_loud ((with_reducible refine (l6In_c _ _ _ _).mono ?_); rintro e w9 ⟨rfl, rfl⟩)))
  refine wp_loop_rounds 3 ?_
  rw [rounds_succ]
  go_wp2
  go_ret
  exact ⟨rfl, f⟩
set_option maxHeartbeats 1600000 in
theorem l2Dec_1ok (w : World) (a : UInt8) (ha : 48 ≤ a.toNat ∧ a.toNat ≤ 57) : Calls Tryd.prog 31 #[.string ⟨#[a]⟩] w (Ret (.int .i64 ((a.toNat : Int) - 48)) w) := by
  have f := Fr.refl w
  have iidxL1 := idxL1 a
  have da1 : decide ((a.toNat : Int) < 48) = false := decide_eq_false (by omega)
  have da2 : decide ((57 : Int) < (a.toNat : Int)) = false := decide_eq_false (by omega)
  have wa1 : IntKind.u8.wrap ((a.toNat : Int) - 48) = (a.toNat : Int) - 48 := by show ((a.toNat : Int) - 48) % 256 = _; omega
  have wa2 : IntKind.i64.wrap ((a.toNat : Int) - 48) = (a.toNat : Int) - 48 := IntWalk.i64_in _ (by omega)
  have n1 : IntKind.i64.wrap 1 = 1 := by decide
  have n2 : IntKind.i64.wrap 2 = 2 := by decide
  have n0 : IntKind.i64.wrap 0 = 0 := by decide
  go_enter Tryd.func31, Tryd.ntmps31
  go_wp2_with (first | (go_at_call 37; go_loud ((with_reducible refine (l6In_c _ _ _ _).mono ?_); rintro e w9 ⟨rfl, rfl⟩)))
  refine wp_loop_rounds 3 ?_
  rw [rounds_succ]
  go_wp2
  rw [rounds_succ]
  go_wp2
  go_ret
  exact ⟨rfl, f⟩
set_option maxHeartbeats 1600000 in
theorem l2Dec_2lo (w : World) (a b : UInt8) (ha : a.toNat < 48) : Calls Tryd.prog 31 #[.string ⟨#[a, b]⟩] w (Ret (.int .i64 (-1)) w) := by
  have f := Fr.refl w
  have iidxL2 := idxL2 a b
  have iidxL3 := idxL3 a b
  have da1 : decide ((a.toNat : Int) < 48) = true := decide_eq_true (by omega)
  have n1 : IntKind.i64.wrap 1 = 1 := by decide
  have n2 : IntKind.i64.wrap 2 = 2 := by decide
  have n0 : IntKind.i64.wrap 0 = 0 := by decide
  go_enter Tryd.func31, Tryd.ntmps31
  go_wp2_with (first | (go_at_call 37; go_loud ((with_reducible refine (l6In_c _ _ _ _).mono ?_); rintro e w9 ⟨rfl, rfl⟩)))
  refine wp_loop_rounds 3 ?_
  rw [rounds_succ]
  go_wp2
  go_ret
  exact ⟨rfl, f⟩
set_option maxHeartbeats 1600000 in
theorem l2Dec_2hi (w : World) (a b : UInt8) (ha : 57 < a.toNat) : Calls Tryd.prog 31 #[.string ⟨#[a, b]⟩] w (Ret (.int .i64 (-1)) w) := by
  have f := Fr.refl w
  have iidxL2 := idxL2 a b
  have iidxL3 := idxL3 a b
  have da1 : decide ((a.toNat : Int) < 48) = false := decide_eq_false (by omega)
  have da2 : decide ((57 : Int) < (a.toNat : Int)) = true := decide_eq_true (by omega)
  have n1 : IntKind.i64.wrap 1 = 1 := by decide
  have n2 : IntKind.i64.wrap 2 = 2 := by decide
  have n0 : IntKind.i64.wrap 0 = 0 := by decide
  go_enter Tryd.func31, Tryd.ntmps31
  go_wp2_with (first | (go_at_call 37; go_loud ((with_reducible refine (l6In_c _ _ _ _).mono ?_); rintro e w9 ⟨rfl, rfl⟩)))
  refine wp_loop_rounds 3 ?_
  rw [rounds_succ]
  go_wp2
  go_ret
  exact ⟨rfl, f⟩
set_option maxHeartbeats 1600000 in
theorem l2Dec_3lo (w : World) (a b : UInt8) (ha : 48 ≤ a.toNat ∧ a.toNat ≤ 57) (hb : b.toNat < 48) : Calls Tryd.prog 31 #[.string ⟨#[a, b]⟩] w (Ret (.int .i64 (-1)) w) := by
  have f := Fr.refl w
  have iidxL2 := idxL2 a b
  have iidxL3 := idxL3 a b
  have da1 : decide ((a.toNat : Int) < 48) = false := decide_eq_false (by omega)
  have da2 : decide ((57 : Int) < (a.toNat : Int)) = false := decide_eq_false (by omega)
  have wa1 : IntKind.u8.wrap ((a.toNat : Int) - 48) = (a.toNat : Int) - 48 := by show ((a.toNat : Int) - 48) % 256 = _; omega
  have wa2 : IntKind.i64.wrap ((a.toNat : Int) - 48) = (a.toNat : Int) - 48 := IntWalk.i64_in _ (by omega)
  have db1 : decide ((b.toNat : Int) < 48) = true := decide_eq_true (by omega)
  have n1 : IntKind.i64.wrap 1 = 1 := by decide
  have n2 : IntKind.i64.wrap 2 = 2 := by decide
  have n0 : IntKind.i64.wrap 0 = 0 := by decide
  go_enter Tryd.func31, Tryd.ntmps31
  go_wp2_with (first | (go_at_call 37; go_loud ((with_reducible refine (l6In_c _ _ _ _).mono ?_); rintro e w9 ⟨rfl, rfl⟩)))
  refine wp_loop_rounds 3 ?_
  rw [rounds_succ]
  go_wp2
  rw [rounds_succ]
  go_wp2
  go_ret
  exact ⟨rfl, f⟩
set_option maxHeartbeats 1600000 in
theorem l2Dec_3hi (w : World) (a b : UInt8) (ha : 48 ≤ a.toNat ∧ a.toNat ≤ 57) (hb : 57 < b.toNat) : Calls Tryd.prog 31 #[.string ⟨#[a, b]⟩] w (Ret (.int .i64 (-1)) w) := by
  have f := Fr.refl w
  have iidxL2 := idxL2 a b
  have iidxL3 := idxL3 a b
  have da1 : decide ((a.toNat : Int) < 48) = false := decide_eq_false (by omega)
  have da2 : decide ((57 : Int) < (a.toNat : Int)) = false := decide_eq_false (by omega)
  have wa1 : IntKind.u8.wrap ((a.toNat : Int) - 48) = (a.toNat : Int) - 48 := by show ((a.toNat : Int) - 48) % 256 = _; omega
  have wa2 : IntKind.i64.wrap ((a.toNat : Int) - 48) = (a.toNat : Int) - 48 := IntWalk.i64_in _ (by omega)
  have db1 : decide ((b.toNat : Int) < 48) = false := decide_eq_false (by omega)
  have db2 : decide ((57 : Int) < (b.toNat : Int)) = true := decide_eq_true (by omega)
  have n1 : IntKind.i64.wrap 1 = 1 := by decide
  have n2 : IntKind.i64.wrap 2 = 2 := by decide
  have n0 : IntKind.i64.wrap 0 = 0 := by decide
  go_enter Tryd.func31, Tryd.ntmps31
  go_wp2_with (first | (go_at_call 37; go_loud ((with_reducible refine (l6In_c _ _ _ _).mono ?_); rintro e w9 ⟨rfl, rfl⟩)))
  refine wp_loop_rounds 3 ?_
  rw [rounds_succ]
  go_wp2
  rw [rounds_succ]
  go_wp2
  go_ret
  exact ⟨rfl, f⟩
set_option maxHeartbeats 1600000 in
theorem l2Dec_3ok (w : World) (a b : UInt8) (ha : 48 ≤ a.toNat ∧ a.toNat ≤ 57) (hb : 48 ≤ b.toNat ∧ b.toNat ≤ 57) : Calls Tryd.prog 31 #[.string ⟨#[a, b]⟩] w (Ret (.int .i64 (10 * ((a.toNat : Int) - 48) + ((b.toNat : Int) - 48))) w) := by
  have f := Fr.refl w
  have iidxL2 := idxL2 a b
  have iidxL3 := idxL3 a b
  have da1 : decide ((a.toNat : Int) < 48) = false := decide_eq_false (by omega)
  have da2 : decide ((57 : Int) < (a.toNat : Int)) = false := decide_eq_false (by omega)
  have wa1 : IntKind.u8.wrap ((a.toNat : Int) - 48) = (a.toNat : Int) - 48 := by show ((a.toNat : Int) - 48) % 256 = _; omega
  have wa2 : IntKind.i64.wrap ((a.toNat : Int) - 48) = (a.toNat : Int) - 48 := IntWalk.i64_in _ (by omega)
  have db1 : decide ((b.toNat : Int) < 48) = false := decide_eq_false (by omega)
  have db2 : decide ((57 : Int) < (b.toNat : Int)) = false := decide_eq_false (by omega)
  have wb1 : IntKind.u8.wrap ((b.toNat : Int) - 48) = (b.toNat : Int) - 48 := by show ((b.toNat : Int) - 48) % 256 = _; omega
  have wb2 : IntKind.i64.wrap ((b.toNat : Int) - 48) = (b.toNat : Int) - 48 := IntWalk.i64_in _ (by omega)
  have wx : IntKind.i64.wrap (10 * ((a.toNat : Int) - 48)) = 10 * ((a.toNat : Int) - 48) := IntWalk.i64_in _ (by omega)
  have wy : IntKind.i64.wrap (10 * ((a.toNat : Int) - 48) + ((b.toNat : Int) - 48)) = 10 * ((a.toNat : Int) - 48) + ((b.toNat : Int) - 48) := IntWalk.i64_in _ (by omega)
  have n1 : IntKind.i64.wrap 1 = 1 := by decide
  have n2 : IntKind.i64.wrap 2 = 2 := by decide
  have n0 : IntKind.i64.wrap 0 = 0 := by decide
  go_enter Tryd.func31, Tryd.ntmps31
  go_wp2_with (first | (go_at_call 37; go_loud ((with_reducible refine (l6In_c _ _ _ _).mono ?_); rintro e w9 ⟨rfl, rfl⟩)))
  refine wp_loop_rounds 3 ?_
  rw [rounds_succ]
  go_wp2
  rw [rounds_succ]
  go_wp2
  rw [rounds_succ]
  go_wp2
  go_ret
  exact ⟨rfl, f⟩
set_option maxHeartbeats 1600000 in
theorem l2Dec_none (w : World) (l : List UInt8) (h : l.length = 0 ∨ 2 < l.length) : Calls Tryd.prog 31 #[.string ⟨l.toArray⟩] w (Ret (.int .i64 (-1)) w) := by
  have f := Fr.refl w
  have d : decide ((1 : Int) ≤ (l.length : Int) ∧ (l.length : Int) ≤ 2) = false := decide_eq_false (by omega)
  go_enter Tryd.func31, Tryd.ntmps31
  go_wp2_with (first | (go_at_call 37; go_loud ((with_reducible refine (l6In_c _ _ _ _).mono ?_); rintro e w9 ⟨rfl, rfl⟩; rw [d])))
  go_ret
  exact ⟨rfl, f⟩
theorem byte3 (a : UInt8) : a.toNat < 48 ∨ 57 < a.toNat ∨ (48 ≤ a.toNat ∧ a.toNat ≤ 57) := by omega
theorem digV_lo {a : UInt8} (h : a.toNat < 48) : digV a = none := by unfold digV; rw [if_pos (.inl h)]
theorem digV_hi {a : UInt8} (h : 57 < a.toNat) : digV a = none := by unfold digV; rw [if_pos (.inr h)]
theorem digV_ok {a : UInt8} (h : 48 ≤ a.toNat ∧ a.toNat ≤ 57) : digV a = some ((a.toNat : Int) - 48) := by unfold digV; rw [if_neg (by omega)]
theorem l2Dec_c (w : World) (l : List UInt8) : Calls Tryd.prog 31 #[.string ⟨l.toArray⟩] w (Ret (.int .i64 (decV l)) w) := by
  match l with
  | [] => exact l2Dec_none w [] (.inl rfl)
  | [a] =>
    rw [decV]
    rcases byte3 a with h | h | h
    · rw [digV_lo h]; exact l2Dec_1lo w a h
    · rw [digV_hi h]; exact l2Dec_1hi w a h
    · rw [digV_ok h]; exact l2Dec_1ok w a h
  | [a, b] =>
    rw [decV]
    rcases byte3 a with h | h | h
    · rw [digV_lo h]; exact l2Dec_2lo w a b h
    · rw [digV_hi h]; exact l2Dec_2hi w a b h
    · rw [digV_ok h]
      rcases byte3 b with h2 | h2 | h2
      · rw [digV_lo h2]; exact l2Dec_3lo w a b h h2
      · rw [digV_hi h2]; exact l2Dec_3hi w a b h h2
      · rw [digV_ok h2]; exact l2Dec_3ok w a b h h2
  | a :: b :: c :: r => exact l2Dec_none w (a :: b :: c :: r) (.inr (by simp))
end Go.Proofs.YtphojlkljlnfjaaDoor
