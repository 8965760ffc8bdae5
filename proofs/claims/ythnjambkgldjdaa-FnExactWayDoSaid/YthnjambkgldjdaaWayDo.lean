/- The program's and the reference's WayDo. -/
import Derived.Test.YthnjambkgldjdaaWay4
import Derived.Test.YthnjambkgldjdaaWay6
import Derived.Test.YthnjambkgldjdaaFresh
namespace Go.Proofs.Ythnjambkgldjdaa
set_option linter.unusedVariables false
set_option linter.unusedSimpArgs false
open Go.RowKit
instance : TyInf 28 false 1 := ⟨⟨_, Try.underlying28, rfl⟩, by kernel_rfl⟩
instance : TyInf 70 false 1 := ⟨⟨_, Try.underlying70, rfl⟩, by kernel_rfl⟩
def zSt : St := ⟨0, 0, 0, [], [], [], []⟩
def wdoV (s o : St) (n : Int) : St × Bool := if mayV s o n = true then (doV s o n, true) else (zSt, false)
theorem Sep.zSt {F0 : List Nat} {w0 w : World} {L : List Asrt} (S : Sep F0 w0 L w) : Sep F0 w0 (aOwn tSt zSt [.int .i64 0, .int .i64 0, .int .i64 0, .slice none 0 0, .slice none 0 0, .slice none 0 0, .slice none 0 0] [] :: L) w :=
  S.new (aOwn tSt Go.Proofs.Ythnjambkgldjdaa.zSt _ []) ⟨.slice none 0 0, .slice none 0 0, .slice none 0 0, .slice none 0 0, [], [], [], [], rfl, rfl, Ty.orow.nil _ _ _, Ty.orow.nil _ _ _, Ty.orow.nil _ _ _, Ty.orow.nil _ _ _, by unfold I64; simp [Go.Proofs.Ythnjambkgldjdaa.zSt]⟩ (by simp [aOwn]) (fun q hq => by cases hq) (Fr.refl _)
theorem doV_rows (s o : St) (n : Int) : doV s o n = ⟨(doV s o n).way, (doV s o n).vsn, (doV s o n).want, s.sent, s.live, s.back, s.got⟩ := by
  unfold doV
  repeat' split
  all_goals rfl
theorem okSt_rng {s : St} (h : okSt s = true) : 1 ≤ s.vsn ∧ s.vsn ≤ 9 := by
  unfold okSt at h
  simp only [Bool.and_eq_true, decide_eq_true_eq] at h
  omega
theorem okSt_small {s : St} (h : okSt s = true) : smallSt s := by
  have h1 := okSt_len h
  unfold okSt at h
  simp only [Bool.and_eq_true, decide_eq_true_eq] at h
  unfold smallSt
  omega
theorem doV_rng {s o : St} {n : Int} (h1 : 1 ≤ s.vsn ∧ s.vsn ≤ 9) (h2 : I64 s.way ∧ I64 s.vsn ∧ I64 s.want) (h3 : I64 o.want) : I64 (doV s o n).way ∧ I64 (doV s o n).vsn ∧ I64 (doV s o n).want := by
  unfold I64 at *
  unfold doV
  repeat' split
  all_goals refine ⟨?_, ?_, ?_⟩ <;> (try simp only) <;> omega
def wfV (n : Int) : Value :=
  if n = 1 then .tuple #[.agg #[.int .i64 1, .func (.func 66) #[] #[], .func (.func 67) #[] #[]], .bool true]
  else if n = 2 then .tuple #[.agg #[.int .i64 2, .func (.func 68) #[] #[], .func (.func 69) #[] #[]], .bool true]
  else if n = 3 then .tuple #[.agg #[.int .i64 3, .func (.func 70) #[] #[], .func (.func 71) #[] #[]], .bool true]
  else if n = 4 then .tuple #[.agg #[.int .i64 4, .func (.func 72) #[] #[], .func (.func 73) #[] #[]], .bool true]
  else if n = 5 then .tuple #[.agg #[.int .i64 5, .func (.func 74) #[] #[], .func (.func 75) #[] #[]], .bool true]
  else if n = 6 then .tuple #[.agg #[.int .i64 6, .func (.func 76) #[] #[], .func (.func 75) #[] #[]], .bool true]
  else if n = 7 then .tuple #[.agg #[.int .i64 7, .func (.func 77) #[] #[], .func (.func 78) #[] #[]], .bool true]
  else .tuple #[.agg #[.int .i64 0, .nilFunc, .nilFunc], .bool false]
theorem wfV1 : wfV 1 = .tuple #[.agg #[.int .i64 1, .func (.func 66) #[] #[], .func (.func 67) #[] #[]], .bool true] := rfl
theorem wfV2 : wfV 2 = .tuple #[.agg #[.int .i64 2, .func (.func 68) #[] #[], .func (.func 69) #[] #[]], .bool true] := rfl
theorem wfV3 : wfV 3 = .tuple #[.agg #[.int .i64 3, .func (.func 70) #[] #[], .func (.func 71) #[] #[]], .bool true] := rfl
theorem wfV4 : wfV 4 = .tuple #[.agg #[.int .i64 4, .func (.func 72) #[] #[], .func (.func 73) #[] #[]], .bool true] := rfl
theorem wfV5 : wfV 5 = .tuple #[.agg #[.int .i64 5, .func (.func 74) #[] #[], .func (.func 75) #[] #[]], .bool true] := rfl
theorem wfV6 : wfV 6 = .tuple #[.agg #[.int .i64 6, .func (.func 76) #[] #[], .func (.func 75) #[] #[]], .bool true] := rfl
theorem wfV7 : wfV 7 = .tuple #[.agg #[.int .i64 7, .func (.func 77) #[] #[], .func (.func 78) #[] #[]], .bool true] := rfl
theorem wfV0 {n : Int} (h : ¬ (1 ≤ n ∧ n ≤ 7)) : wfV n = .tuple #[.agg #[.int .i64 0, .nilFunc, .nilFunc], .bool false] := by
  unfold wfV
  rw [if_neg (by omega), if_neg (by omega), if_neg (by omega), if_neg (by omega), if_neg (by omega), if_neg (by omega), if_neg (by omega)]
set_option maxHeartbeats 3200000 in
theorem wayFind_c (w : World) (n : Int) : Calls Try.prog 59 #[.int .i64 n] w (Ret (wfV n) w) := by
  have S := Sep.start w
  go_enter Try.func59, Try.ntmps59
  go_wp2_with (first
    | ((with_reducible refine gate_dst (N := 2) rfl ?_); refine aAl S ?_; clear S; intro g2 w9 z9 S)
    | (go_at_call 56; (with_reducible refine (waySteps_c _).mono ?_); rintro e w9 ⟨gT, rfl, z9, k9, f9⟩; replace S := S.new (aBox gT 72 21 [.int .i64 1, .func (.func 66) #[] #[], .func (.func 67) #[] #[], .int .i64 2, .func (.func 68) #[] #[], .func (.func 69) #[] #[], .int .i64 3, .func (.func 70) #[] #[], .func (.func 71) #[] #[], .int .i64 4, .func (.func 72) #[] #[], .func (.func 73) #[] #[], .int .i64 5, .func (.func 74) #[] #[], .func (.func 75) #[] #[], .int .i64 6, .func (.func 76) #[] #[], .func (.func 75) #[] #[], .int .i64 7, .func (.func 77) #[] #[], .func (.func 78) #[] #[]]) ⟨k9, rfl⟩ (by simp [aBox]) (fun q hq => by rw [List.mem_singleton.1 hq]; exact z9) f9; clear k9 f9))
  go_loopw [8] (fun i wr => ∃ k : Nat, k ≤ 7 ∧ i = .int .i64 (k : Int) ∧ (∀ j : Nat, j < k → n ≠ (j : Int) + 1) ∧ Sep [] w [aBox gT 72 21 [.int .i64 1, .func (.func 66) #[] #[], .func (.func 67) #[] #[], .int .i64 2, .func (.func 68) #[] #[], .func (.func 69) #[] #[], .int .i64 3, .func (.func 70) #[] #[], .func (.func 71) #[] #[], .int .i64 4, .func (.func 72) #[] #[], .func (.func 73) #[] #[], .int .i64 5, .func (.func 74) #[] #[], .func (.func 75) #[] #[], .int .i64 6, .func (.func 76) #[] #[], .func (.func 75) #[] #[], .int .i64 7, .func (.func 77) #[] #[], .func (.func 78) #[] #[]], aBox g2 72 3 [.int .i64 0, .nilFunc, .nilFunc]] wr) (fun i _ => 9 - (intOf i).toNat)
  case atStart => exact ⟨0, by omega, rfl, (fun j hj => by omega), (Sep.only2 (a1 := aBox gT _ _ _) (a2 := aBox g2 _ _ _) S delA delA)⟩
  case round =>
    clear S
    obtain ⟨k, hk, rfl, hj, S⟩ := hrel
    rcases (by omega : k = 0 ∨ k = 1 ∨ k = 2 ∨ k = 3 ∨ k = 4 ∨ k = 5 ∨ k = 6 ∨ k = 7) with rfl | rfl | rfl | rfl | rfl | rfl | rfl | rfl
    · by_cases e : n = 1
      · subst e
        rw [wfV1]
        clear hj
        go_wp2_with (first | ((with_reducible refine gate_box rfl ?_); refine aBx S ?_; clear S; intro g9 w9 z9 S) | ((with_reducible refine gate_alloc rfl ?_); refine aAl S ?_; clear S; intro g9 w9 z9 S) | ((with_reducible refine gate_load rfl ?_); first | refine aLd S ?_ | refine aPt S ?_ | refine aL1 S ?_) | ((with_reducible refine gate_st rfl ?_); (first | refine aS1 S ?_ | refine aSt S ?_ | refine aSp S ?_); clear S; intro w9 S))
        (refine' Sep.ret1_1 S rfl rfl ?rm1 Try.underlying72 rfl ts72 rfl rfl ?rp1; (case rm1 => (repeat (first | with_reducible exact List.mem_cons_self | with_reducible apply List.mem_cons_of_mem)) <;> fail))
        exact ⟨rfl, S.frame⟩
      · have b : ((1 : Int) == n) = false := by simpa using fun h => e h.symm
        have HJ := Lib.hid hj
        have E := Lib.hid e
        clear hj e
        go_wp2_with (first | ((with_reducible refine gate_box rfl ?_); refine aBx S ?_; clear S; intro g9 w9 z9 S) | ((with_reducible refine gate_alloc rfl ?_); refine aAl S ?_; clear S; intro g9 w9 z9 S) | ((with_reducible refine gate_load rfl ?_); first | refine aLd S ?_ | refine aPt S ?_ | refine aL1 S ?_) | ((with_reducible refine gate_st rfl ?_); (first | refine aS1 S ?_ | refine aSt S ?_ | refine aSp S ?_); clear S; intro w9 S))
        go_roundw
        case rel => exact ⟨1, by omega, by go_num, (fun j hj => by rcases (by omega : j < 0 ∨ j = 0) with h | h; exact HJ.out j h; subst h; exact E.out), (Sep.only2 (a1 := aBox gT _ _ _) (a2 := aBox g2 _ _ _) S delA delA)⟩
        case measure => simp [intOf]
    · by_cases e : n = 2
      · subst e
        rw [wfV2]
        clear hj
        go_wp2_with (first | ((with_reducible refine gate_box rfl ?_); refine aBx S ?_; clear S; intro g9 w9 z9 S) | ((with_reducible refine gate_alloc rfl ?_); refine aAl S ?_; clear S; intro g9 w9 z9 S) | ((with_reducible refine gate_load rfl ?_); first | refine aLd S ?_ | refine aPt S ?_ | refine aL1 S ?_) | ((with_reducible refine gate_st rfl ?_); (first | refine aS1 S ?_ | refine aSt S ?_ | refine aSp S ?_); clear S; intro w9 S))
        (refine' Sep.ret1_1 S rfl rfl ?rm2 Try.underlying72 rfl ts72 rfl rfl ?rp2; (case rm2 => (repeat (first | with_reducible exact List.mem_cons_self | with_reducible apply List.mem_cons_of_mem)) <;> fail))
        exact ⟨rfl, S.frame⟩
      · have b : ((2 : Int) == n) = false := by simpa using fun h => e h.symm
        have HJ := Lib.hid hj
        have E := Lib.hid e
        clear hj e
        go_wp2_with (first | ((with_reducible refine gate_box rfl ?_); refine aBx S ?_; clear S; intro g9 w9 z9 S) | ((with_reducible refine gate_alloc rfl ?_); refine aAl S ?_; clear S; intro g9 w9 z9 S) | ((with_reducible refine gate_load rfl ?_); first | refine aLd S ?_ | refine aPt S ?_ | refine aL1 S ?_) | ((with_reducible refine gate_st rfl ?_); (first | refine aS1 S ?_ | refine aSt S ?_ | refine aSp S ?_); clear S; intro w9 S))
        go_roundw
        case rel => exact ⟨2, by omega, by go_num, (fun j hj => by rcases (by omega : j < 1 ∨ j = 1) with h | h; exact HJ.out j h; subst h; exact E.out), (Sep.only2 (a1 := aBox gT _ _ _) (a2 := aBox g2 _ _ _) S delA delA)⟩
        case measure => simp [intOf]
    · by_cases e : n = 3
      · subst e
        rw [wfV3]
        clear hj
        go_wp2_with (first | ((with_reducible refine gate_box rfl ?_); refine aBx S ?_; clear S; intro g9 w9 z9 S) | ((with_reducible refine gate_alloc rfl ?_); refine aAl S ?_; clear S; intro g9 w9 z9 S) | ((with_reducible refine gate_load rfl ?_); first | refine aLd S ?_ | refine aPt S ?_ | refine aL1 S ?_) | ((with_reducible refine gate_st rfl ?_); (first | refine aS1 S ?_ | refine aSt S ?_ | refine aSp S ?_); clear S; intro w9 S))
        (refine' Sep.ret1_1 S rfl rfl ?rm3 Try.underlying72 rfl ts72 rfl rfl ?rp3; (case rm3 => (repeat (first | with_reducible exact List.mem_cons_self | with_reducible apply List.mem_cons_of_mem)) <;> fail))
        exact ⟨rfl, S.frame⟩
      · have b : ((3 : Int) == n) = false := by simpa using fun h => e h.symm
        have HJ := Lib.hid hj
        have E := Lib.hid e
        clear hj e
        go_wp2_with (first | ((with_reducible refine gate_box rfl ?_); refine aBx S ?_; clear S; intro g9 w9 z9 S) | ((with_reducible refine gate_alloc rfl ?_); refine aAl S ?_; clear S; intro g9 w9 z9 S) | ((with_reducible refine gate_load rfl ?_); first | refine aLd S ?_ | refine aPt S ?_ | refine aL1 S ?_) | ((with_reducible refine gate_st rfl ?_); (first | refine aS1 S ?_ | refine aSt S ?_ | refine aSp S ?_); clear S; intro w9 S))
        go_roundw
        case rel => exact ⟨3, by omega, by go_num, (fun j hj => by rcases (by omega : j < 2 ∨ j = 2) with h | h; exact HJ.out j h; subst h; exact E.out), (Sep.only2 (a1 := aBox gT _ _ _) (a2 := aBox g2 _ _ _) S delA delA)⟩
        case measure => simp [intOf]
    · by_cases e : n = 4
      · subst e
        rw [wfV4]
        clear hj
        go_wp2_with (first | ((with_reducible refine gate_box rfl ?_); refine aBx S ?_; clear S; intro g9 w9 z9 S) | ((with_reducible refine gate_alloc rfl ?_); refine aAl S ?_; clear S; intro g9 w9 z9 S) | ((with_reducible refine gate_load rfl ?_); first | refine aLd S ?_ | refine aPt S ?_ | refine aL1 S ?_) | ((with_reducible refine gate_st rfl ?_); (first | refine aS1 S ?_ | refine aSt S ?_ | refine aSp S ?_); clear S; intro w9 S))
        (refine' Sep.ret1_1 S rfl rfl ?rm4 Try.underlying72 rfl ts72 rfl rfl ?rp4; (case rm4 => (repeat (first | with_reducible exact List.mem_cons_self | with_reducible apply List.mem_cons_of_mem)) <;> fail))
        exact ⟨rfl, S.frame⟩
      · have b : ((4 : Int) == n) = false := by simpa using fun h => e h.symm
        have HJ := Lib.hid hj
        have E := Lib.hid e
        clear hj e
        go_wp2_with (first | ((with_reducible refine gate_box rfl ?_); refine aBx S ?_; clear S; intro g9 w9 z9 S) | ((with_reducible refine gate_alloc rfl ?_); refine aAl S ?_; clear S; intro g9 w9 z9 S) | ((with_reducible refine gate_load rfl ?_); first | refine aLd S ?_ | refine aPt S ?_ | refine aL1 S ?_) | ((with_reducible refine gate_st rfl ?_); (first | refine aS1 S ?_ | refine aSt S ?_ | refine aSp S ?_); clear S; intro w9 S))
        go_roundw
        case rel => exact ⟨4, by omega, by go_num, (fun j hj => by rcases (by omega : j < 3 ∨ j = 3) with h | h; exact HJ.out j h; subst h; exact E.out), (Sep.only2 (a1 := aBox gT _ _ _) (a2 := aBox g2 _ _ _) S delA delA)⟩
        case measure => simp [intOf]
    · by_cases e : n = 5
      · subst e
        rw [wfV5]
        clear hj
        go_wp2_with (first | ((with_reducible refine gate_box rfl ?_); refine aBx S ?_; clear S; intro g9 w9 z9 S) | ((with_reducible refine gate_alloc rfl ?_); refine aAl S ?_; clear S; intro g9 w9 z9 S) | ((with_reducible refine gate_load rfl ?_); first | refine aLd S ?_ | refine aPt S ?_ | refine aL1 S ?_) | ((with_reducible refine gate_st rfl ?_); (first | refine aS1 S ?_ | refine aSt S ?_ | refine aSp S ?_); clear S; intro w9 S))
        (refine' Sep.ret1_1 S rfl rfl ?rm5 Try.underlying72 rfl ts72 rfl rfl ?rp5; (case rm5 => (repeat (first | with_reducible exact List.mem_cons_self | with_reducible apply List.mem_cons_of_mem)) <;> fail))
        exact ⟨rfl, S.frame⟩
      · have b : ((5 : Int) == n) = false := by simpa using fun h => e h.symm
        have HJ := Lib.hid hj
        have E := Lib.hid e
        clear hj e
        go_wp2_with (first | ((with_reducible refine gate_box rfl ?_); refine aBx S ?_; clear S; intro g9 w9 z9 S) | ((with_reducible refine gate_alloc rfl ?_); refine aAl S ?_; clear S; intro g9 w9 z9 S) | ((with_reducible refine gate_load rfl ?_); first | refine aLd S ?_ | refine aPt S ?_ | refine aL1 S ?_) | ((with_reducible refine gate_st rfl ?_); (first | refine aS1 S ?_ | refine aSt S ?_ | refine aSp S ?_); clear S; intro w9 S))
        go_roundw
        case rel => exact ⟨5, by omega, by go_num, (fun j hj => by rcases (by omega : j < 4 ∨ j = 4) with h | h; exact HJ.out j h; subst h; exact E.out), (Sep.only2 (a1 := aBox gT _ _ _) (a2 := aBox g2 _ _ _) S delA delA)⟩
        case measure => simp [intOf]
    · by_cases e : n = 6
      · subst e
        rw [wfV6]
        clear hj
        go_wp2_with (first | ((with_reducible refine gate_box rfl ?_); refine aBx S ?_; clear S; intro g9 w9 z9 S) | ((with_reducible refine gate_alloc rfl ?_); refine aAl S ?_; clear S; intro g9 w9 z9 S) | ((with_reducible refine gate_load rfl ?_); first | refine aLd S ?_ | refine aPt S ?_ | refine aL1 S ?_) | ((with_reducible refine gate_st rfl ?_); (first | refine aS1 S ?_ | refine aSt S ?_ | refine aSp S ?_); clear S; intro w9 S))
        (refine' Sep.ret1_1 S rfl rfl ?rm6 Try.underlying72 rfl ts72 rfl rfl ?rp6; (case rm6 => (repeat (first | with_reducible exact List.mem_cons_self | with_reducible apply List.mem_cons_of_mem)) <;> fail))
        exact ⟨rfl, S.frame⟩
      · have b : ((6 : Int) == n) = false := by simpa using fun h => e h.symm
        have HJ := Lib.hid hj
        have E := Lib.hid e
        clear hj e
        go_wp2_with (first | ((with_reducible refine gate_box rfl ?_); refine aBx S ?_; clear S; intro g9 w9 z9 S) | ((with_reducible refine gate_alloc rfl ?_); refine aAl S ?_; clear S; intro g9 w9 z9 S) | ((with_reducible refine gate_load rfl ?_); first | refine aLd S ?_ | refine aPt S ?_ | refine aL1 S ?_) | ((with_reducible refine gate_st rfl ?_); (first | refine aS1 S ?_ | refine aSt S ?_ | refine aSp S ?_); clear S; intro w9 S))
        go_roundw
        case rel => exact ⟨6, by omega, by go_num, (fun j hj => by rcases (by omega : j < 5 ∨ j = 5) with h | h; exact HJ.out j h; subst h; exact E.out), (Sep.only2 (a1 := aBox gT _ _ _) (a2 := aBox g2 _ _ _) S delA delA)⟩
        case measure => simp [intOf]
    · by_cases e : n = 7
      · subst e
        rw [wfV7]
        clear hj
        go_wp2_with (first | ((with_reducible refine gate_box rfl ?_); refine aBx S ?_; clear S; intro g9 w9 z9 S) | ((with_reducible refine gate_alloc rfl ?_); refine aAl S ?_; clear S; intro g9 w9 z9 S) | ((with_reducible refine gate_load rfl ?_); first | refine aLd S ?_ | refine aPt S ?_ | refine aL1 S ?_) | ((with_reducible refine gate_st rfl ?_); (first | refine aS1 S ?_ | refine aSt S ?_ | refine aSp S ?_); clear S; intro w9 S))
        (refine' Sep.ret1_1 S rfl rfl ?rm7 Try.underlying72 rfl ts72 rfl rfl ?rp7; (case rm7 => (repeat (first | with_reducible exact List.mem_cons_self | with_reducible apply List.mem_cons_of_mem)) <;> fail))
        exact ⟨rfl, S.frame⟩
      · have b : ((7 : Int) == n) = false := by simpa using fun h => e h.symm
        have HJ := Lib.hid hj
        have E := Lib.hid e
        clear hj e
        go_wp2_with (first | ((with_reducible refine gate_box rfl ?_); refine aBx S ?_; clear S; intro g9 w9 z9 S) | ((with_reducible refine gate_alloc rfl ?_); refine aAl S ?_; clear S; intro g9 w9 z9 S) | ((with_reducible refine gate_load rfl ?_); first | refine aLd S ?_ | refine aPt S ?_ | refine aL1 S ?_) | ((with_reducible refine gate_st rfl ?_); (first | refine aS1 S ?_ | refine aSt S ?_ | refine aSp S ?_); clear S; intro w9 S))
        go_roundw
        case rel => exact ⟨7, by omega, by go_num, (fun j hj => by rcases (by omega : j < 6 ∨ j = 6) with h | h; exact HJ.out j h; subst h; exact E.out), (Sep.only2 (a1 := aBox gT _ _ _) (a2 := aBox g2 _ _ _) S delA delA)⟩
        case measure => simp [intOf]
    · have hn : ¬ (1 ≤ n ∧ n ≤ 7) := fun h => hj (n - 1).toNat (by omega) (by omega)
      have W0 := Lib.hid (wfV0 hn)
      clear hj hn
      go_wp2_with (first | ((with_reducible refine gate_box rfl ?_); refine aBx S ?_; clear S; intro g9 w9 z9 S) | ((with_reducible refine gate_alloc rfl ?_); refine aAl S ?_; clear S; intro g9 w9 z9 S) | ((with_reducible refine gate_load rfl ?_); first | refine aLd S ?_ | refine aPt S ?_ | refine aL1 S ?_) | ((with_reducible refine gate_st rfl ?_); (first | refine aS1 S ?_ | refine aSt S ?_ | refine aSp S ?_); clear S; intro w9 S))
      (refine' Sep.ret1_1 S rfl rfl ?rm8 Try.underlying72 rfl ts72 rfl rfl ?rp8; (case rm8 => (repeat (first | with_reducible exact List.mem_cons_self | with_reducible apply List.mem_cons_of_mem)) <;> fail))
      rw [W0.out]
      exact ⟨rfl, S.frame⟩
theorem wayFind_r (w : World) (n : Int) {v : Value} (h : wfV n = v) : Calls Try.prog 59 #[.int .i64 n] w (Ret v w) := h ▸ wayFind_c w n
set_option maxHeartbeats 3200000 in
theorem sWayDo_c (w : World) (s o : St) (c0 c1 : List Value) (h1 : tSt.rd w s c0) (h2 : tSt.rd w o c1) (n : Int) : Calls Try.prog 34 #[.agg c0.toArray, .agg c1.toArray, .int .i64 n] w (RetOwn2 tSt (wdoV s o n) w) := by
  have Q := Lib.hid h1
  have Q2 := Lib.hid h2
  obtain ⟨v1, v2, v3, v4, rfl, _, _, _, _, I1⟩ := h1
  obtain ⟨x1, x2, x3, x4, rfl, _, _, _, _, I2⟩ := h2
  have FIN := Lib.hid (fun (W : World) (f : Fr w W) => tSt.fr f Q.out)
  have FIO := Lib.hid (fun (W : World) (f : Fr w W) => tSt.fr f Q2.out)
  have S := Sep.start w
  cases m1 : mayV s o n with
  | false =>
    have R := Lib.hid (show wdoV s o n = (zSt, false) by unfold wdoV; rw [if_neg (by rw [m1]; simp)])
    have M1 := Lib.hid m1
    clear m1 I1 I2
    go_enter Try.func34, Try.ntmps34
    go_wp2_with (first
      | (go_at_call 55; (with_reducible refine (sWayMay_r _ s o _ _ (FIN.out _ S.frame) (FIO.out _ S.frame) n M1.out).mono ?_); rintro e w9 ⟨rfl, f9⟩; replace S := S.fr f9; clear f9)
      | ((with_reducible refine gate_box rfl ?_); refine aBx S ?_; clear S; intro g9 w9 z9 S) | ((with_reducible refine gate_alloc rfl ?_); refine aAl S ?_; clear S; intro g9 w9 z9 S) | ((with_reducible refine gate_load rfl ?_); first | refine aLd S ?_ | refine aPt S ?_ | refine aL1 S ?_) | ((with_reducible refine gate_st rfl ?_); (first | refine aS1 S ?_ | refine aSt S ?_ | refine aSp S ?_); clear S; intro w9 S))
    have S' := S.zSt
    (refine' Sep.ret1_1 S rfl rfl ?rm9 Try.underlying26 rfl ts26 rfl rfl ?rp9; (case rm9 => (repeat (first | with_reducible exact List.mem_cons_self | with_reducible apply List.mem_cons_of_mem)) <;> fail))
    rw [R.out]
    exact S'.retOwn2 List.mem_cons_self
  | true =>
    have R := Lib.hid (show wdoV s o n = (doV s o n, true) by unfold wdoV; rw [if_pos m1])
    have O1 : okSt s = true := by unfold mayV at m1; simp only [Bool.and_eq_true] at m1; exact m1.1
    have VR := Lib.hid (okSt_rng O1)
    have SM := Lib.hid (okSt_small O1)
    have DR := Lib.hid (doV_rng (s := s) (o := o) (n := n) (okSt_rng O1) I1 I2.2.2)
    have M1 := Lib.hid m1
    clear m1 I1 I2 O1
    go_enter Try.func34, Try.ntmps34
    go_wp2_with (first
      | ((with_reducible refine gate_dst (N := 3) rfl ?_); refine aBx S ?_; clear S; intro gS w9 z9 S)
      | ((with_reducible refine gate_dst (N := 4) rfl ?_); refine aBx S ?_; clear S; intro gO w9 z9 S)
      | (go_at_call 55; (with_reducible refine (sWayMay_r _ s o _ _ (FIN.out _ S.frame) (FIO.out _ S.frame) n M1.out).mono ?_); rintro e w9 ⟨rfl, f9⟩; replace S := S.fr f9; clear f9)
      | ((with_reducible refine gate_box rfl ?_); refine aBx S ?_; clear S; intro g9 w9 z9 S) | ((with_reducible refine gate_alloc rfl ?_); refine aAl S ?_; clear S; intro g9 w9 z9 S) | ((with_reducible refine gate_load rfl ?_); first | refine aLd S ?_ | refine aPt S ?_ | refine aL1 S ?_) | ((with_reducible refine gate_st rfl ?_); (first | refine aS1 S ?_ | refine aSt S ?_ | refine aSp S ?_); clear S; intro w9 S))
    have S0 := (Sep.only2 (a1 := aBox gO _ _ _) (a2 := aBox gS _ _ _) S delA delA)
    refine wp_region_noPanic ?_
    refine wp_region_held_drew (S := Sep _ _ _) (by kernel_rfl) S0.drew (fun _ => ?_)
    replace S := S.drew
    clear S0
    refine tk 0 ?_
    (try simp only [Act.put, List.setIfInBounds_toArray, List.set_cons_zero, List.set_cons_succ])
    refine tk 2 ?_
    (try simp only [Act.put, List.setIfInBounds_toArray, List.set_cons_zero, List.set_cons_succ])
    refine tk 3 ?_
    (try simp only [Act.put, List.setIfInBounds_toArray, List.set_cons_zero, List.set_cons_succ])
    refine rdy1 1 (fun K hK => ?_)
    go_simp; (skip; go_at_call 58; (with_reducible refine (l3Copy_c _ s _ (FIN.out _ S.frame) SM.out).mono ?_); rintro e w9 ⟨cs9, F9, rfl, h9, n9, b9, f9⟩; replace S := S.new (aOwn tSt _ cs9 F9) h9 n9 b9 f9; clear h9 n9 b9 f9; obtain ⟨A1, c1, A2, c2, A3, c3, A4, c4, F1, F2, F3, F4, rfl, rfl, hI, S⟩ := S.openSt)
    (first | refine hK.out _ _ (S.sub subA) (fun _ => ?_) | (go_wp2_with fail; refine hK.out _ _ (S.sub subA) (fun _ => ?_)))
    clear hK K
    (try simp only [Act.put, List.setIfInBounds_toArray, List.set_cons_zero, List.set_cons_succ])
    refine rdy1 4 (fun K hK => ?_)
    go_simp; (skip; go_at_call 57; (with_reducible refine (l11Do_c _ s o _ _ _ _ x1 x2 x3 x4 n VR.out rfl rfl rfl rfl).mono ?_); rintro e w9 ⟨rfl, f9⟩; replace S := S.fr f9; clear f9)
    (first | refine hK.out _ _ (S.sub subA) (fun _ => ?_) | (go_wp2_with fail; refine hK.out _ _ (S.sub subA) (fun _ => ?_)))
    clear hK K
    (try simp only [Act.put, List.setIfInBounds_toArray, List.set_cons_zero, List.set_cons_succ])
    refine rdy1 5 (fun K hK => ?_)
    (first | refine rgS1 S ?_ | refine rgSt S ?_ | refine rgSp S ?_); clear S; intro w9 S
    (first | refine hK.out _ _ (S.sub subA) (fun _ => ?_) | (go_wp2_with fail; refine hK.out _ _ (S.sub subA) (fun _ => ?_)))
    clear hK K
    (try simp only [Act.put, List.setIfInBounds_toArray, List.set_cons_zero, List.set_cons_succ])
    refine tk 6 ?_
    (try simp only [Act.put, List.setIfInBounds_toArray, List.set_cons_zero, List.set_cons_succ])
    refine wpAnyH_done (by kernel_rfl) ?_ _
    refine NoPanic.normal ?_
    go_wp2
    have S' := Sep.shutSt (x := (doV s o n).way) (y := (doV s o n).vsn) (z := (doV s o n).want) (Sep.only4 (a1 := aRow tPk _ s.sent _ _) (a2 := aRow tBool _ s.live _ F2) (a3 := aRow tBool _ s.back _ F3) (a4 := aRow tInt _ s.got _ _) S delA delA delA delA) DR.out
    rw [← doV_rows s o n] at S'
    (refine' Sep.ret1_1 S rfl rfl ?rm10 Try.underlying26 rfl ts26 rfl rfl ?rp10; (case rm10 => (repeat (first | with_reducible exact List.mem_cons_self | with_reducible apply List.mem_cons_of_mem)) <;> fail))
    rw [R.out]
    exact S'.retOwn2 List.mem_cons_self

set_option maxRecDepth 100000 in
set_option maxHeartbeats 6400000 in
theorem WayDo_c (w : World) (s o : St) (c0 c1 : List Value) (h1 : tSt.rd w s c0) (h2 : tSt.rd w o c1) (n : Int) : Calls Try.prog 35 #[.agg c0.toArray, .agg c1.toArray, .int .i64 n] w (RetOwn2 tSt (wdoV s o n) w) := by
  have Q := Lib.hid h1
  have Q2 := Lib.hid h2
  obtain ⟨v1, v2, v3, v4, rfl, _, _, _, _, I1⟩ := h1
  obtain ⟨x1, x2, x3, x4, rfl, _, _, _, _, I2⟩ := h2
  have FIN := Lib.hid (fun (W : World) (f : Fr w W) => tSt.fr f Q.out)
  have FIO := Lib.hid (fun (W : World) (f : Fr w W) => tSt.fr f Q2.out)
  have S := Sep.start w
  by_cases hn : 1 ≤ n ∧ n ≤ 7
  case neg =>
    have R := Lib.hid (show wdoV s o n = (zSt, false) by
      have : mayL s o n = false := by unfold mayL; rw [if_neg (by omega), if_neg (by omega), if_neg (by omega), if_neg (by omega), if_neg (by omega), if_neg (by omega), if_neg (by omega)]
      unfold wdoV mayV; rw [this]; simp)
    have WF := Lib.hid (wfV0 hn)
    clear hn I1 I2
    go_enter Try.func35, Try.ntmps35
    go_wp2_with (first
      | (go_at_call 59; (with_reducible refine (wayFind_r _ n WF.out).mono ?_); rintro e w9 ⟨rfl, f9⟩; replace S := S.fr f9; clear f9)
      | ((with_reducible refine gate_box rfl ?_); refine aBx S ?_; clear S; intro g9 w9 z9 S) | ((with_reducible refine gate_alloc rfl ?_); refine aAl S ?_; clear S; intro g9 w9 z9 S) | ((with_reducible refine gate_load rfl ?_); first | refine aLd S ?_ | refine aPt S ?_ | refine aL1 S ?_) | ((with_reducible refine gate_st rfl ?_); (first | refine aS1 S ?_ | refine aSt S ?_ | refine aSp S ?_); clear S; intro w9 S))
    have S' := S.zSt
    (refine' Sep.ret1_1 S rfl rfl ?rm11 Try.underlying26 rfl ts26 rfl rfl ?rp11; (case rm11 => (repeat (first | with_reducible exact List.mem_cons_self | with_reducible apply List.mem_cons_of_mem)) <;> fail))
    rw [R.out]
    exact S'.retOwn2 List.mem_cons_self
  cases o1 : okSt s with
  | false =>
    have R := Lib.hid (show wdoV s o n = (zSt, false) by unfold wdoV mayV; rw [o1]; simp)
    have O1 := Lib.hid o1
    clear o1 I1 I2
    rcases (by omega : n = 1 ∨ n = 2 ∨ n = 3 ∨ n = 4 ∨ n = 5 ∨ n = 6 ∨ n = 7) with rfl | rfl | rfl | rfl | rfl | rfl | rfl
    · clear hn
      go_enter Try.func35, Try.ntmps35
      go_wp2_with (first
        | (go_at_call 59; (with_reducible refine (wayFind_r _ 1 wfV1).mono ?_); rintro e w9 ⟨rfl, f9⟩; replace S := S.fr f9; clear f9)
        | (go_at_call 19; (with_reducible refine (StateOk_r _ s _ (FIN.out _ S.frame) O1.out).mono ?_); rintro e w9 ⟨rfl, f9⟩; replace S := S.fr f9; clear f9)
        | ((with_reducible refine gate_box rfl ?_); refine aBx S ?_; clear S; intro g9 w9 z9 S) | ((with_reducible refine gate_alloc rfl ?_); refine aAl S ?_; clear S; intro g9 w9 z9 S) | ((with_reducible refine gate_load rfl ?_); first | refine aLd S ?_ | refine aPt S ?_ | refine aL1 S ?_) | ((with_reducible refine gate_st rfl ?_); (first | refine aS1 S ?_ | refine aSt S ?_ | refine aSp S ?_); clear S; intro w9 S))
      have S' := S.zSt
      (refine' Sep.ret1_1 S rfl rfl ?rm12 Try.underlying26 rfl ts26 rfl rfl ?rp12; (case rm12 => (repeat (first | with_reducible exact List.mem_cons_self | with_reducible apply List.mem_cons_of_mem)) <;> fail))
      rw [R.out]
      exact S'.retOwn2 List.mem_cons_self
    · clear hn
      go_enter Try.func35, Try.ntmps35
      go_wp2_with (first
        | (go_at_call 59; (with_reducible refine (wayFind_r _ 2 wfV2).mono ?_); rintro e w9 ⟨rfl, f9⟩; replace S := S.fr f9; clear f9)
        | (go_at_call 19; (with_reducible refine (StateOk_r _ s _ (FIN.out _ S.frame) O1.out).mono ?_); rintro e w9 ⟨rfl, f9⟩; replace S := S.fr f9; clear f9)
        | ((with_reducible refine gate_box rfl ?_); refine aBx S ?_; clear S; intro g9 w9 z9 S) | ((with_reducible refine gate_alloc rfl ?_); refine aAl S ?_; clear S; intro g9 w9 z9 S) | ((with_reducible refine gate_load rfl ?_); first | refine aLd S ?_ | refine aPt S ?_ | refine aL1 S ?_) | ((with_reducible refine gate_st rfl ?_); (first | refine aS1 S ?_ | refine aSt S ?_ | refine aSp S ?_); clear S; intro w9 S))
      have S' := S.zSt
      (refine' Sep.ret1_1 S rfl rfl ?rm13 Try.underlying26 rfl ts26 rfl rfl ?rp13; (case rm13 => (repeat (first | with_reducible exact List.mem_cons_self | with_reducible apply List.mem_cons_of_mem)) <;> fail))
      rw [R.out]
      exact S'.retOwn2 List.mem_cons_self
    · clear hn
      go_enter Try.func35, Try.ntmps35
      go_wp2_with (first
        | (go_at_call 59; (with_reducible refine (wayFind_r _ 3 wfV3).mono ?_); rintro e w9 ⟨rfl, f9⟩; replace S := S.fr f9; clear f9)
        | (go_at_call 19; (with_reducible refine (StateOk_r _ s _ (FIN.out _ S.frame) O1.out).mono ?_); rintro e w9 ⟨rfl, f9⟩; replace S := S.fr f9; clear f9)
        | ((with_reducible refine gate_box rfl ?_); refine aBx S ?_; clear S; intro g9 w9 z9 S) | ((with_reducible refine gate_alloc rfl ?_); refine aAl S ?_; clear S; intro g9 w9 z9 S) | ((with_reducible refine gate_load rfl ?_); first | refine aLd S ?_ | refine aPt S ?_ | refine aL1 S ?_) | ((with_reducible refine gate_st rfl ?_); (first | refine aS1 S ?_ | refine aSt S ?_ | refine aSp S ?_); clear S; intro w9 S))
      have S' := S.zSt
      (refine' Sep.ret1_1 S rfl rfl ?rm14 Try.underlying26 rfl ts26 rfl rfl ?rp14; (case rm14 => (repeat (first | with_reducible exact List.mem_cons_self | with_reducible apply List.mem_cons_of_mem)) <;> fail))
      rw [R.out]
      exact S'.retOwn2 List.mem_cons_self
    · clear hn
      go_enter Try.func35, Try.ntmps35
      go_wp2_with (first
        | (go_at_call 59; (with_reducible refine (wayFind_r _ 4 wfV4).mono ?_); rintro e w9 ⟨rfl, f9⟩; replace S := S.fr f9; clear f9)
        | (go_at_call 19; (with_reducible refine (StateOk_r _ s _ (FIN.out _ S.frame) O1.out).mono ?_); rintro e w9 ⟨rfl, f9⟩; replace S := S.fr f9; clear f9)
        | ((with_reducible refine gate_box rfl ?_); refine aBx S ?_; clear S; intro g9 w9 z9 S) | ((with_reducible refine gate_alloc rfl ?_); refine aAl S ?_; clear S; intro g9 w9 z9 S) | ((with_reducible refine gate_load rfl ?_); first | refine aLd S ?_ | refine aPt S ?_ | refine aL1 S ?_) | ((with_reducible refine gate_st rfl ?_); (first | refine aS1 S ?_ | refine aSt S ?_ | refine aSp S ?_); clear S; intro w9 S))
      have S' := S.zSt
      (refine' Sep.ret1_1 S rfl rfl ?rm15 Try.underlying26 rfl ts26 rfl rfl ?rp15; (case rm15 => (repeat (first | with_reducible exact List.mem_cons_self | with_reducible apply List.mem_cons_of_mem)) <;> fail))
      rw [R.out]
      exact S'.retOwn2 List.mem_cons_self
    · clear hn
      go_enter Try.func35, Try.ntmps35
      go_wp2_with (first
        | (go_at_call 59; (with_reducible refine (wayFind_r _ 5 wfV5).mono ?_); rintro e w9 ⟨rfl, f9⟩; replace S := S.fr f9; clear f9)
        | (go_at_call 19; (with_reducible refine (StateOk_r _ s _ (FIN.out _ S.frame) O1.out).mono ?_); rintro e w9 ⟨rfl, f9⟩; replace S := S.fr f9; clear f9)
        | ((with_reducible refine gate_box rfl ?_); refine aBx S ?_; clear S; intro g9 w9 z9 S) | ((with_reducible refine gate_alloc rfl ?_); refine aAl S ?_; clear S; intro g9 w9 z9 S) | ((with_reducible refine gate_load rfl ?_); first | refine aLd S ?_ | refine aPt S ?_ | refine aL1 S ?_) | ((with_reducible refine gate_st rfl ?_); (first | refine aS1 S ?_ | refine aSt S ?_ | refine aSp S ?_); clear S; intro w9 S))
      have S' := S.zSt
      (refine' Sep.ret1_1 S rfl rfl ?rm16 Try.underlying26 rfl ts26 rfl rfl ?rp16; (case rm16 => (repeat (first | with_reducible exact List.mem_cons_self | with_reducible apply List.mem_cons_of_mem)) <;> fail))
      rw [R.out]
      exact S'.retOwn2 List.mem_cons_self
    · clear hn
      go_enter Try.func35, Try.ntmps35
      go_wp2_with (first
        | (go_at_call 59; (with_reducible refine (wayFind_r _ 6 wfV6).mono ?_); rintro e w9 ⟨rfl, f9⟩; replace S := S.fr f9; clear f9)
        | (go_at_call 19; (with_reducible refine (StateOk_r _ s _ (FIN.out _ S.frame) O1.out).mono ?_); rintro e w9 ⟨rfl, f9⟩; replace S := S.fr f9; clear f9)
        | ((with_reducible refine gate_box rfl ?_); refine aBx S ?_; clear S; intro g9 w9 z9 S) | ((with_reducible refine gate_alloc rfl ?_); refine aAl S ?_; clear S; intro g9 w9 z9 S) | ((with_reducible refine gate_load rfl ?_); first | refine aLd S ?_ | refine aPt S ?_ | refine aL1 S ?_) | ((with_reducible refine gate_st rfl ?_); (first | refine aS1 S ?_ | refine aSt S ?_ | refine aSp S ?_); clear S; intro w9 S))
      have S' := S.zSt
      (refine' Sep.ret1_1 S rfl rfl ?rm17 Try.underlying26 rfl ts26 rfl rfl ?rp17; (case rm17 => (repeat (first | with_reducible exact List.mem_cons_self | with_reducible apply List.mem_cons_of_mem)) <;> fail))
      rw [R.out]
      exact S'.retOwn2 List.mem_cons_self
    · clear hn
      go_enter Try.func35, Try.ntmps35
      go_wp2_with (first
        | (go_at_call 59; (with_reducible refine (wayFind_r _ 7 wfV7).mono ?_); rintro e w9 ⟨rfl, f9⟩; replace S := S.fr f9; clear f9)
        | (go_at_call 19; (with_reducible refine (StateOk_r _ s _ (FIN.out _ S.frame) O1.out).mono ?_); rintro e w9 ⟨rfl, f9⟩; replace S := S.fr f9; clear f9)
        | ((with_reducible refine gate_box rfl ?_); refine aBx S ?_; clear S; intro g9 w9 z9 S) | ((with_reducible refine gate_alloc rfl ?_); refine aAl S ?_; clear S; intro g9 w9 z9 S) | ((with_reducible refine gate_load rfl ?_); first | refine aLd S ?_ | refine aPt S ?_ | refine aL1 S ?_) | ((with_reducible refine gate_st rfl ?_); (first | refine aS1 S ?_ | refine aSt S ?_ | refine aSp S ?_); clear S; intro w9 S))
      have S' := S.zSt
      (refine' Sep.ret1_1 S rfl rfl ?rm18 Try.underlying26 rfl ts26 rfl rfl ?rp18; (case rm18 => (repeat (first | with_reducible exact List.mem_cons_self | with_reducible apply List.mem_cons_of_mem)) <;> fail))
      rw [R.out]
      exact S'.retOwn2 List.mem_cons_self
  | true =>
  cases o2 : okSt o with
  | false =>
    have R := Lib.hid (show wdoV s o n = (zSt, false) by unfold wdoV mayV; rw [o2]; simp)
    have O1 := Lib.hid o1
    have O2 := Lib.hid o2
    clear o1 o2 I1 I2
    rcases (by omega : n = 1 ∨ n = 2 ∨ n = 3 ∨ n = 4 ∨ n = 5 ∨ n = 6 ∨ n = 7) with rfl | rfl | rfl | rfl | rfl | rfl | rfl
    · clear hn
      go_enter Try.func35, Try.ntmps35
      go_wp2_with (first
        | (go_at_call 59; (with_reducible refine (wayFind_r _ 1 wfV1).mono ?_); rintro e w9 ⟨rfl, f9⟩; replace S := S.fr f9; clear f9)
        | (go_at_call 19; (with_reducible refine (StateOk_r _ s _ (FIN.out _ S.frame) O1.out).mono ?_); rintro e w9 ⟨rfl, f9⟩; replace S := S.fr f9; clear f9)
        | (go_at_call 19; (with_reducible refine (StateOk_r _ o _ (FIO.out _ S.frame) O2.out).mono ?_); rintro e w9 ⟨rfl, f9⟩; replace S := S.fr f9; clear f9)
        | ((with_reducible refine gate_box rfl ?_); refine aBx S ?_; clear S; intro g9 w9 z9 S) | ((with_reducible refine gate_alloc rfl ?_); refine aAl S ?_; clear S; intro g9 w9 z9 S) | ((with_reducible refine gate_load rfl ?_); first | refine aLd S ?_ | refine aPt S ?_ | refine aL1 S ?_) | ((with_reducible refine gate_st rfl ?_); (first | refine aS1 S ?_ | refine aSt S ?_ | refine aSp S ?_); clear S; intro w9 S))
      have S' := S.zSt
      (refine' Sep.ret1_1 S rfl rfl ?rm19 Try.underlying26 rfl ts26 rfl rfl ?rp19; (case rm19 => (repeat (first | with_reducible exact List.mem_cons_self | with_reducible apply List.mem_cons_of_mem)) <;> fail))
      rw [R.out]
      exact S'.retOwn2 List.mem_cons_self
    · clear hn
      go_enter Try.func35, Try.ntmps35
      go_wp2_with (first
        | (go_at_call 59; (with_reducible refine (wayFind_r _ 2 wfV2).mono ?_); rintro e w9 ⟨rfl, f9⟩; replace S := S.fr f9; clear f9)
        | (go_at_call 19; (with_reducible refine (StateOk_r _ s _ (FIN.out _ S.frame) O1.out).mono ?_); rintro e w9 ⟨rfl, f9⟩; replace S := S.fr f9; clear f9)
        | (go_at_call 19; (with_reducible refine (StateOk_r _ o _ (FIO.out _ S.frame) O2.out).mono ?_); rintro e w9 ⟨rfl, f9⟩; replace S := S.fr f9; clear f9)
        | ((with_reducible refine gate_box rfl ?_); refine aBx S ?_; clear S; intro g9 w9 z9 S) | ((with_reducible refine gate_alloc rfl ?_); refine aAl S ?_; clear S; intro g9 w9 z9 S) | ((with_reducible refine gate_load rfl ?_); first | refine aLd S ?_ | refine aPt S ?_ | refine aL1 S ?_) | ((with_reducible refine gate_st rfl ?_); (first | refine aS1 S ?_ | refine aSt S ?_ | refine aSp S ?_); clear S; intro w9 S))
      have S' := S.zSt
      (refine' Sep.ret1_1 S rfl rfl ?rm20 Try.underlying26 rfl ts26 rfl rfl ?rp20; (case rm20 => (repeat (first | with_reducible exact List.mem_cons_self | with_reducible apply List.mem_cons_of_mem)) <;> fail))
      rw [R.out]
      exact S'.retOwn2 List.mem_cons_self
    · clear hn
      go_enter Try.func35, Try.ntmps35
      go_wp2_with (first
        | (go_at_call 59; (with_reducible refine (wayFind_r _ 3 wfV3).mono ?_); rintro e w9 ⟨rfl, f9⟩; replace S := S.fr f9; clear f9)
        | (go_at_call 19; (with_reducible refine (StateOk_r _ s _ (FIN.out _ S.frame) O1.out).mono ?_); rintro e w9 ⟨rfl, f9⟩; replace S := S.fr f9; clear f9)
        | (go_at_call 19; (with_reducible refine (StateOk_r _ o _ (FIO.out _ S.frame) O2.out).mono ?_); rintro e w9 ⟨rfl, f9⟩; replace S := S.fr f9; clear f9)
        | ((with_reducible refine gate_box rfl ?_); refine aBx S ?_; clear S; intro g9 w9 z9 S) | ((with_reducible refine gate_alloc rfl ?_); refine aAl S ?_; clear S; intro g9 w9 z9 S) | ((with_reducible refine gate_load rfl ?_); first | refine aLd S ?_ | refine aPt S ?_ | refine aL1 S ?_) | ((with_reducible refine gate_st rfl ?_); (first | refine aS1 S ?_ | refine aSt S ?_ | refine aSp S ?_); clear S; intro w9 S))
      have S' := S.zSt
      (refine' Sep.ret1_1 S rfl rfl ?rm21 Try.underlying26 rfl ts26 rfl rfl ?rp21; (case rm21 => (repeat (first | with_reducible exact List.mem_cons_self | with_reducible apply List.mem_cons_of_mem)) <;> fail))
      rw [R.out]
      exact S'.retOwn2 List.mem_cons_self
    · clear hn
      go_enter Try.func35, Try.ntmps35
      go_wp2_with (first
        | (go_at_call 59; (with_reducible refine (wayFind_r _ 4 wfV4).mono ?_); rintro e w9 ⟨rfl, f9⟩; replace S := S.fr f9; clear f9)
        | (go_at_call 19; (with_reducible refine (StateOk_r _ s _ (FIN.out _ S.frame) O1.out).mono ?_); rintro e w9 ⟨rfl, f9⟩; replace S := S.fr f9; clear f9)
        | (go_at_call 19; (with_reducible refine (StateOk_r _ o _ (FIO.out _ S.frame) O2.out).mono ?_); rintro e w9 ⟨rfl, f9⟩; replace S := S.fr f9; clear f9)
        | ((with_reducible refine gate_box rfl ?_); refine aBx S ?_; clear S; intro g9 w9 z9 S) | ((with_reducible refine gate_alloc rfl ?_); refine aAl S ?_; clear S; intro g9 w9 z9 S) | ((with_reducible refine gate_load rfl ?_); first | refine aLd S ?_ | refine aPt S ?_ | refine aL1 S ?_) | ((with_reducible refine gate_st rfl ?_); (first | refine aS1 S ?_ | refine aSt S ?_ | refine aSp S ?_); clear S; intro w9 S))
      have S' := S.zSt
      (refine' Sep.ret1_1 S rfl rfl ?rm22 Try.underlying26 rfl ts26 rfl rfl ?rp22; (case rm22 => (repeat (first | with_reducible exact List.mem_cons_self | with_reducible apply List.mem_cons_of_mem)) <;> fail))
      rw [R.out]
      exact S'.retOwn2 List.mem_cons_self
    · clear hn
      go_enter Try.func35, Try.ntmps35
      go_wp2_with (first
        | (go_at_call 59; (with_reducible refine (wayFind_r _ 5 wfV5).mono ?_); rintro e w9 ⟨rfl, f9⟩; replace S := S.fr f9; clear f9)
        | (go_at_call 19; (with_reducible refine (StateOk_r _ s _ (FIN.out _ S.frame) O1.out).mono ?_); rintro e w9 ⟨rfl, f9⟩; replace S := S.fr f9; clear f9)
        | (go_at_call 19; (with_reducible refine (StateOk_r _ o _ (FIO.out _ S.frame) O2.out).mono ?_); rintro e w9 ⟨rfl, f9⟩; replace S := S.fr f9; clear f9)
        | ((with_reducible refine gate_box rfl ?_); refine aBx S ?_; clear S; intro g9 w9 z9 S) | ((with_reducible refine gate_alloc rfl ?_); refine aAl S ?_; clear S; intro g9 w9 z9 S) | ((with_reducible refine gate_load rfl ?_); first | refine aLd S ?_ | refine aPt S ?_ | refine aL1 S ?_) | ((with_reducible refine gate_st rfl ?_); (first | refine aS1 S ?_ | refine aSt S ?_ | refine aSp S ?_); clear S; intro w9 S))
      have S' := S.zSt
      (refine' Sep.ret1_1 S rfl rfl ?rm23 Try.underlying26 rfl ts26 rfl rfl ?rp23; (case rm23 => (repeat (first | with_reducible exact List.mem_cons_self | with_reducible apply List.mem_cons_of_mem)) <;> fail))
      rw [R.out]
      exact S'.retOwn2 List.mem_cons_self
    · clear hn
      go_enter Try.func35, Try.ntmps35
      go_wp2_with (first
        | (go_at_call 59; (with_reducible refine (wayFind_r _ 6 wfV6).mono ?_); rintro e w9 ⟨rfl, f9⟩; replace S := S.fr f9; clear f9)
        | (go_at_call 19; (with_reducible refine (StateOk_r _ s _ (FIN.out _ S.frame) O1.out).mono ?_); rintro e w9 ⟨rfl, f9⟩; replace S := S.fr f9; clear f9)
        | (go_at_call 19; (with_reducible refine (StateOk_r _ o _ (FIO.out _ S.frame) O2.out).mono ?_); rintro e w9 ⟨rfl, f9⟩; replace S := S.fr f9; clear f9)
        | ((with_reducible refine gate_box rfl ?_); refine aBx S ?_; clear S; intro g9 w9 z9 S) | ((with_reducible refine gate_alloc rfl ?_); refine aAl S ?_; clear S; intro g9 w9 z9 S) | ((with_reducible refine gate_load rfl ?_); first | refine aLd S ?_ | refine aPt S ?_ | refine aL1 S ?_) | ((with_reducible refine gate_st rfl ?_); (first | refine aS1 S ?_ | refine aSt S ?_ | refine aSp S ?_); clear S; intro w9 S))
      have S' := S.zSt
      (refine' Sep.ret1_1 S rfl rfl ?rm24 Try.underlying26 rfl ts26 rfl rfl ?rp24; (case rm24 => (repeat (first | with_reducible exact List.mem_cons_self | with_reducible apply List.mem_cons_of_mem)) <;> fail))
      rw [R.out]
      exact S'.retOwn2 List.mem_cons_self
    · clear hn
      go_enter Try.func35, Try.ntmps35
      go_wp2_with (first
        | (go_at_call 59; (with_reducible refine (wayFind_r _ 7 wfV7).mono ?_); rintro e w9 ⟨rfl, f9⟩; replace S := S.fr f9; clear f9)
        | (go_at_call 19; (with_reducible refine (StateOk_r _ s _ (FIN.out _ S.frame) O1.out).mono ?_); rintro e w9 ⟨rfl, f9⟩; replace S := S.fr f9; clear f9)
        | (go_at_call 19; (with_reducible refine (StateOk_r _ o _ (FIO.out _ S.frame) O2.out).mono ?_); rintro e w9 ⟨rfl, f9⟩; replace S := S.fr f9; clear f9)
        | ((with_reducible refine gate_box rfl ?_); refine aBx S ?_; clear S; intro g9 w9 z9 S) | ((with_reducible refine gate_alloc rfl ?_); refine aAl S ?_; clear S; intro g9 w9 z9 S) | ((with_reducible refine gate_load rfl ?_); first | refine aLd S ?_ | refine aPt S ?_ | refine aL1 S ?_) | ((with_reducible refine gate_st rfl ?_); (first | refine aS1 S ?_ | refine aSt S ?_ | refine aSp S ?_); clear S; intro w9 S))
      have S' := S.zSt
      (refine' Sep.ret1_1 S rfl rfl ?rm25 Try.underlying26 rfl ts26 rfl rfl ?rp25; (case rm25 => (repeat (first | with_reducible exact List.mem_cons_self | with_reducible apply List.mem_cons_of_mem)) <;> fail))
      rw [R.out]
      exact S'.retOwn2 List.mem_cons_self
  | true =>
  have MV := Lib.hid (fun n : Int => show mayV s o n = mayL s o n by unfold mayV; rw [o1, o2]; rfl)
  have VR := Lib.hid (okSt_rng o1)
  have SM := Lib.hid (okSt_small o1)
  have DR := Lib.hid (doV_rng (s := s) (o := o) (n := n) (okSt_rng o1) I1 I2.2.2)
  have O1 := Lib.hid o1
  have O2 := Lib.hid o2
  clear o1 o2 I1 I2
  rcases (by omega : n = 1 ∨ n = 2 ∨ n = 3 ∨ n = 4 ∨ n = 5 ∨ n = 6 ∨ n = 7) with rfl | rfl | rfl | rfl | rfl | rfl | rfl
  · cases m1 : mayL s o 1 with
    | false =>
      have R := Lib.hid (show wdoV s o 1 = (zSt, false) by unfold wdoV; rw [MV.out, m1]; simp)
      have M1 := Lib.hid m1
      clear m1 hn
      go_enter Try.func35, Try.ntmps35
      go_wp2_with (first
        | (go_at_call 59; (with_reducible refine (wayFind_r _ 1 wfV1).mono ?_); rintro e w9 ⟨rfl, f9⟩; replace S := S.fr f9; clear f9)
        | (go_at_call 19; (with_reducible refine (StateOk_r _ s _ (FIN.out _ S.frame) O1.out).mono ?_); rintro e w9 ⟨rfl, f9⟩; replace S := S.fr f9; clear f9)
        | (go_at_call 19; (with_reducible refine (StateOk_r _ o _ (FIO.out _ S.frame) O2.out).mono ?_); rintro e w9 ⟨rfl, f9⟩; replace S := S.fr f9; clear f9)
        | (go_at_call 66; (with_reducible refine (way1_r _ s o _ _ (FIN.out _ S.frame) (FIO.out _ S.frame) O1.out O2.out M1.out).mono ?_); rintro e w9 ⟨rfl, f9⟩; replace S := S.fr f9; clear f9)
        | ((with_reducible refine gate_box rfl ?_); refine aBx S ?_; clear S; intro g9 w9 z9 S) | ((with_reducible refine gate_alloc rfl ?_); refine aAl S ?_; clear S; intro g9 w9 z9 S) | ((with_reducible refine gate_load rfl ?_); first | refine aLd S ?_ | refine aPt S ?_ | refine aL1 S ?_) | ((with_reducible refine gate_st rfl ?_); (first | refine aS1 S ?_ | refine aSt S ?_ | refine aSp S ?_); clear S; intro w9 S))
      have S' := S.zSt
      (refine' Sep.ret1_1 S rfl rfl ?rm26 Try.underlying26 rfl ts26 rfl rfl ?rp26; (case rm26 => (repeat (first | with_reducible exact List.mem_cons_self | with_reducible apply List.mem_cons_of_mem)) <;> fail))
      rw [R.out]
      exact S'.retOwn2 List.mem_cons_self
    | true =>
      have R := Lib.hid (show wdoV s o 1 = (doV s o 1, true) by unfold wdoV; rw [if_pos (by rw [MV.out]; exact m1)])
      have DV := Lib.hid (show doV s o 1 = ⟨1, s.vsn, s.want, s.sent, s.live, s.back, s.got⟩ by rfl)
      have M1 := Lib.hid m1
      clear m1 hn
      go_enter Try.func35, Try.ntmps35
      go_wp2_with (first
        | ((with_reducible refine gate_dst (N := 10) rfl ?_); refine aAl S ?_; clear S; intro gN w9 z9 S)
        | (go_at_call 59; (with_reducible refine (wayFind_r _ 1 wfV1).mono ?_); rintro e w9 ⟨rfl, f9⟩; replace S := S.fr f9; clear f9)
        | (go_at_call 19; (with_reducible refine (StateOk_r _ s _ (FIN.out _ S.frame) O1.out).mono ?_); rintro e w9 ⟨rfl, f9⟩; replace S := S.fr f9; clear f9)
        | (go_at_call 19; (with_reducible refine (StateOk_r _ o _ (FIO.out _ S.frame) O2.out).mono ?_); rintro e w9 ⟨rfl, f9⟩; replace S := S.fr f9; clear f9)
        | (go_at_call 66; (with_reducible refine (way1_r _ s o _ _ (FIN.out _ S.frame) (FIO.out _ S.frame) O1.out O2.out M1.out).mono ?_); rintro e w9 ⟨rfl, f9⟩; replace S := S.fr f9; clear f9)
        | (go_at_call 60; (with_reducible refine (stateCopy_c _ s _ (FIN.out _ S.frame) SM.out).mono ?_); rintro e w9 ⟨cs9, F9, rfl, h9, n9, b9, f9⟩; replace S := S.new (aOwn tSt _ cs9 F9) h9 n9 b9 f9; clear h9 n9 b9 f9; obtain ⟨A1, c1, A2, c2, A3, c3, A4, c4, F1, F2, F3, F4, rfl, rfl, hI, S⟩ := S.openSt)
        | (go_at_call 67; (with_reducible refine (wayDo1_c _ gN s.way s.vsn s.want _ _ _ _ (S.box (cs := [.int .i64 s.way, .int .i64 s.vsn, .int .i64 s.want, .slice A1 s.sent.length c1, .slice A2 s.live.length c2, .slice A3 s.back.length c3, .slice A4 s.got.length c4]) memA)).mono ?_); rintro e w9 ⟨rfl, k9, c9⟩; replace S := S.putBox (n' := 7) (cs' := [.int .i64 1, .int .i64 s.vsn, .int .i64 s.want, .slice A1 s.sent.length c1, .slice A2 s.live.length c2, .slice A3 s.back.length c3, .slice A4 s.got.length c4]) putA k9 rfl c9; clear k9 c9)
        | ((with_reducible refine gate_box rfl ?_); refine aBx S ?_; clear S; intro g9 w9 z9 S) | ((with_reducible refine gate_alloc rfl ?_); refine aAl S ?_; clear S; intro g9 w9 z9 S) | ((with_reducible refine gate_load rfl ?_); first | refine aLd S ?_ | refine aPt S ?_ | refine aL1 S ?_) | ((with_reducible refine gate_st rfl ?_); (first | refine aS1 S ?_ | refine aSt S ?_ | refine aSp S ?_); clear S; intro w9 S))
      have S' := Sep.shutSt (x := 1) (y := s.vsn) (z := s.want) (Sep.only4 (a1 := aRow tPk _ s.sent _ _) (a2 := aRow tBool _ s.live _ F2) (a3 := aRow tBool _ s.back _ F3) (a4 := aRow tInt _ s.got _ _) S delA delA delA delA) (by have := DR.out; rw [DV.out] at this; exact this)
      rw [← DV.out] at S'
      (refine' Sep.ret1_1 S rfl rfl ?rm27 Try.underlying26 rfl ts26 rfl rfl ?rp27; (case rm27 => (repeat (first | with_reducible exact List.mem_cons_self | with_reducible apply List.mem_cons_of_mem)) <;> fail))
      rw [R.out]
      exact S'.retOwn2 List.mem_cons_self
  · cases m1 : mayL s o 2 with
    | false =>
      have R := Lib.hid (show wdoV s o 2 = (zSt, false) by unfold wdoV; rw [MV.out, m1]; simp)
      have M1 := Lib.hid m1
      clear m1 hn
      go_enter Try.func35, Try.ntmps35
      go_wp2_with (first
        | (go_at_call 59; (with_reducible refine (wayFind_r _ 2 wfV2).mono ?_); rintro e w9 ⟨rfl, f9⟩; replace S := S.fr f9; clear f9)
        | (go_at_call 19; (with_reducible refine (StateOk_r _ s _ (FIN.out _ S.frame) O1.out).mono ?_); rintro e w9 ⟨rfl, f9⟩; replace S := S.fr f9; clear f9)
        | (go_at_call 19; (with_reducible refine (StateOk_r _ o _ (FIO.out _ S.frame) O2.out).mono ?_); rintro e w9 ⟨rfl, f9⟩; replace S := S.fr f9; clear f9)
        | (go_at_call 68; (with_reducible refine (way2_r _ s o _ _ (FIN.out _ S.frame) (FIO.out _ S.frame) O1.out O2.out M1.out).mono ?_); rintro e w9 ⟨rfl, f9⟩; replace S := S.fr f9; clear f9)
        | ((with_reducible refine gate_box rfl ?_); refine aBx S ?_; clear S; intro g9 w9 z9 S) | ((with_reducible refine gate_alloc rfl ?_); refine aAl S ?_; clear S; intro g9 w9 z9 S) | ((with_reducible refine gate_load rfl ?_); first | refine aLd S ?_ | refine aPt S ?_ | refine aL1 S ?_) | ((with_reducible refine gate_st rfl ?_); (first | refine aS1 S ?_ | refine aSt S ?_ | refine aSp S ?_); clear S; intro w9 S))
      have S' := S.zSt
      (refine' Sep.ret1_1 S rfl rfl ?rm28 Try.underlying26 rfl ts26 rfl rfl ?rp28; (case rm28 => (repeat (first | with_reducible exact List.mem_cons_self | with_reducible apply List.mem_cons_of_mem)) <;> fail))
      rw [R.out]
      exact S'.retOwn2 List.mem_cons_self
    | true =>
      have R := Lib.hid (show wdoV s o 2 = (doV s o 2, true) by unfold wdoV; rw [if_pos (by rw [MV.out]; exact m1)])
      have DV := Lib.hid (show doV s o 2 = ⟨2, s.vsn, s.want, s.sent, s.live, s.back, s.got⟩ by rfl)
      have M1 := Lib.hid m1
      clear m1 hn
      go_enter Try.func35, Try.ntmps35
      go_wp2_with (first
        | ((with_reducible refine gate_dst (N := 10) rfl ?_); refine aAl S ?_; clear S; intro gN w9 z9 S)
        | (go_at_call 59; (with_reducible refine (wayFind_r _ 2 wfV2).mono ?_); rintro e w9 ⟨rfl, f9⟩; replace S := S.fr f9; clear f9)
        | (go_at_call 19; (with_reducible refine (StateOk_r _ s _ (FIN.out _ S.frame) O1.out).mono ?_); rintro e w9 ⟨rfl, f9⟩; replace S := S.fr f9; clear f9)
        | (go_at_call 19; (with_reducible refine (StateOk_r _ o _ (FIO.out _ S.frame) O2.out).mono ?_); rintro e w9 ⟨rfl, f9⟩; replace S := S.fr f9; clear f9)
        | (go_at_call 68; (with_reducible refine (way2_r _ s o _ _ (FIN.out _ S.frame) (FIO.out _ S.frame) O1.out O2.out M1.out).mono ?_); rintro e w9 ⟨rfl, f9⟩; replace S := S.fr f9; clear f9)
        | (go_at_call 60; (with_reducible refine (stateCopy_c _ s _ (FIN.out _ S.frame) SM.out).mono ?_); rintro e w9 ⟨cs9, F9, rfl, h9, n9, b9, f9⟩; replace S := S.new (aOwn tSt _ cs9 F9) h9 n9 b9 f9; clear h9 n9 b9 f9; obtain ⟨A1, c1, A2, c2, A3, c3, A4, c4, F1, F2, F3, F4, rfl, rfl, hI, S⟩ := S.openSt)
        | (go_at_call 69; (with_reducible refine (wayDo2_c _ gN s.way s.vsn s.want _ _ _ _ (S.box (cs := [.int .i64 s.way, .int .i64 s.vsn, .int .i64 s.want, .slice A1 s.sent.length c1, .slice A2 s.live.length c2, .slice A3 s.back.length c3, .slice A4 s.got.length c4]) memA)).mono ?_); rintro e w9 ⟨rfl, k9, c9⟩; replace S := S.putBox (n' := 7) (cs' := [.int .i64 2, .int .i64 s.vsn, .int .i64 s.want, .slice A1 s.sent.length c1, .slice A2 s.live.length c2, .slice A3 s.back.length c3, .slice A4 s.got.length c4]) putA k9 rfl c9; clear k9 c9)
        | ((with_reducible refine gate_box rfl ?_); refine aBx S ?_; clear S; intro g9 w9 z9 S) | ((with_reducible refine gate_alloc rfl ?_); refine aAl S ?_; clear S; intro g9 w9 z9 S) | ((with_reducible refine gate_load rfl ?_); first | refine aLd S ?_ | refine aPt S ?_ | refine aL1 S ?_) | ((with_reducible refine gate_st rfl ?_); (first | refine aS1 S ?_ | refine aSt S ?_ | refine aSp S ?_); clear S; intro w9 S))
      have S' := Sep.shutSt (x := 2) (y := s.vsn) (z := s.want) (Sep.only4 (a1 := aRow tPk _ s.sent _ _) (a2 := aRow tBool _ s.live _ F2) (a3 := aRow tBool _ s.back _ F3) (a4 := aRow tInt _ s.got _ _) S delA delA delA delA) (by have := DR.out; rw [DV.out] at this; exact this)
      rw [← DV.out] at S'
      (refine' Sep.ret1_1 S rfl rfl ?rm29 Try.underlying26 rfl ts26 rfl rfl ?rp29; (case rm29 => (repeat (first | with_reducible exact List.mem_cons_self | with_reducible apply List.mem_cons_of_mem)) <;> fail))
      rw [R.out]
      exact S'.retOwn2 List.mem_cons_self
  · cases m1 : mayL s o 3 with
    | false =>
      have R := Lib.hid (show wdoV s o 3 = (zSt, false) by unfold wdoV; rw [MV.out, m1]; simp)
      have M1 := Lib.hid m1
      clear m1 hn
      go_enter Try.func35, Try.ntmps35
      go_wp2_with (first
        | (go_at_call 59; (with_reducible refine (wayFind_r _ 3 wfV3).mono ?_); rintro e w9 ⟨rfl, f9⟩; replace S := S.fr f9; clear f9)
        | (go_at_call 19; (with_reducible refine (StateOk_r _ s _ (FIN.out _ S.frame) O1.out).mono ?_); rintro e w9 ⟨rfl, f9⟩; replace S := S.fr f9; clear f9)
        | (go_at_call 19; (with_reducible refine (StateOk_r _ o _ (FIO.out _ S.frame) O2.out).mono ?_); rintro e w9 ⟨rfl, f9⟩; replace S := S.fr f9; clear f9)
        | (go_at_call 70; (with_reducible refine (way3_r _ s o _ _ (FIN.out _ S.frame) (FIO.out _ S.frame) O1.out O2.out M1.out).mono ?_); rintro e w9 ⟨rfl, f9⟩; replace S := S.fr f9; clear f9)
        | ((with_reducible refine gate_box rfl ?_); refine aBx S ?_; clear S; intro g9 w9 z9 S) | ((with_reducible refine gate_alloc rfl ?_); refine aAl S ?_; clear S; intro g9 w9 z9 S) | ((with_reducible refine gate_load rfl ?_); first | refine aLd S ?_ | refine aPt S ?_ | refine aL1 S ?_) | ((with_reducible refine gate_st rfl ?_); (first | refine aS1 S ?_ | refine aSt S ?_ | refine aSp S ?_); clear S; intro w9 S))
      have S' := S.zSt
      (refine' Sep.ret1_1 S rfl rfl ?rm30 Try.underlying26 rfl ts26 rfl rfl ?rp30; (case rm30 => (repeat (first | with_reducible exact List.mem_cons_self | with_reducible apply List.mem_cons_of_mem)) <;> fail))
      rw [R.out]
      exact S'.retOwn2 List.mem_cons_self
    | true =>
      have R := Lib.hid (show wdoV s o 3 = (doV s o 3, true) by unfold wdoV; rw [if_pos (by rw [MV.out]; exact m1)])
      have DV := Lib.hid (show doV s o 3 = ⟨3, s.vsn, s.want, s.sent, s.live, s.back, s.got⟩ by rfl)
      have M1 := Lib.hid m1
      clear m1 hn
      go_enter Try.func35, Try.ntmps35
      go_wp2_with (first
        | ((with_reducible refine gate_dst (N := 10) rfl ?_); refine aAl S ?_; clear S; intro gN w9 z9 S)
        | (go_at_call 59; (with_reducible refine (wayFind_r _ 3 wfV3).mono ?_); rintro e w9 ⟨rfl, f9⟩; replace S := S.fr f9; clear f9)
        | (go_at_call 19; (with_reducible refine (StateOk_r _ s _ (FIN.out _ S.frame) O1.out).mono ?_); rintro e w9 ⟨rfl, f9⟩; replace S := S.fr f9; clear f9)
        | (go_at_call 19; (with_reducible refine (StateOk_r _ o _ (FIO.out _ S.frame) O2.out).mono ?_); rintro e w9 ⟨rfl, f9⟩; replace S := S.fr f9; clear f9)
        | (go_at_call 70; (with_reducible refine (way3_r _ s o _ _ (FIN.out _ S.frame) (FIO.out _ S.frame) O1.out O2.out M1.out).mono ?_); rintro e w9 ⟨rfl, f9⟩; replace S := S.fr f9; clear f9)
        | (go_at_call 60; (with_reducible refine (stateCopy_c _ s _ (FIN.out _ S.frame) SM.out).mono ?_); rintro e w9 ⟨cs9, F9, rfl, h9, n9, b9, f9⟩; replace S := S.new (aOwn tSt _ cs9 F9) h9 n9 b9 f9; clear h9 n9 b9 f9; obtain ⟨A1, c1, A2, c2, A3, c3, A4, c4, F1, F2, F3, F4, rfl, rfl, hI, S⟩ := S.openSt)
        | (go_at_call 71; (with_reducible refine (wayDo3_c _ gN s.way s.vsn s.want _ _ _ _ (S.box (cs := [.int .i64 s.way, .int .i64 s.vsn, .int .i64 s.want, .slice A1 s.sent.length c1, .slice A2 s.live.length c2, .slice A3 s.back.length c3, .slice A4 s.got.length c4]) memA)).mono ?_); rintro e w9 ⟨rfl, k9, c9⟩; replace S := S.putBox (n' := 7) (cs' := [.int .i64 3, .int .i64 s.vsn, .int .i64 s.want, .slice A1 s.sent.length c1, .slice A2 s.live.length c2, .slice A3 s.back.length c3, .slice A4 s.got.length c4]) putA k9 rfl c9; clear k9 c9)
        | ((with_reducible refine gate_box rfl ?_); refine aBx S ?_; clear S; intro g9 w9 z9 S) | ((with_reducible refine gate_alloc rfl ?_); refine aAl S ?_; clear S; intro g9 w9 z9 S) | ((with_reducible refine gate_load rfl ?_); first | refine aLd S ?_ | refine aPt S ?_ | refine aL1 S ?_) | ((with_reducible refine gate_st rfl ?_); (first | refine aS1 S ?_ | refine aSt S ?_ | refine aSp S ?_); clear S; intro w9 S))
      have S' := Sep.shutSt (x := 3) (y := s.vsn) (z := s.want) (Sep.only4 (a1 := aRow tPk _ s.sent _ _) (a2 := aRow tBool _ s.live _ F2) (a3 := aRow tBool _ s.back _ F3) (a4 := aRow tInt _ s.got _ _) S delA delA delA delA) (by have := DR.out; rw [DV.out] at this; exact this)
      rw [← DV.out] at S'
      (refine' Sep.ret1_1 S rfl rfl ?rm31 Try.underlying26 rfl ts26 rfl rfl ?rp31; (case rm31 => (repeat (first | with_reducible exact List.mem_cons_self | with_reducible apply List.mem_cons_of_mem)) <;> fail))
      rw [R.out]
      exact S'.retOwn2 List.mem_cons_self
  · cases m1 : mayL s o 4 with
    | false =>
      have R := Lib.hid (show wdoV s o 4 = (zSt, false) by unfold wdoV; rw [MV.out, m1]; simp)
      have M1 := Lib.hid m1
      clear m1 hn
      go_enter Try.func35, Try.ntmps35
      go_wp2_with (first
        | (go_at_call 59; (with_reducible refine (wayFind_r _ 4 wfV4).mono ?_); rintro e w9 ⟨rfl, f9⟩; replace S := S.fr f9; clear f9)
        | (go_at_call 19; (with_reducible refine (StateOk_r _ s _ (FIN.out _ S.frame) O1.out).mono ?_); rintro e w9 ⟨rfl, f9⟩; replace S := S.fr f9; clear f9)
        | (go_at_call 19; (with_reducible refine (StateOk_r _ o _ (FIO.out _ S.frame) O2.out).mono ?_); rintro e w9 ⟨rfl, f9⟩; replace S := S.fr f9; clear f9)
        | (go_at_call 72; (with_reducible refine (way4_r _ s o _ _ (FIN.out _ S.frame) (FIO.out _ S.frame) O1.out O2.out M1.out).mono ?_); rintro e w9 ⟨rfl, f9⟩; replace S := S.fr f9; clear f9)
        | ((with_reducible refine gate_box rfl ?_); refine aBx S ?_; clear S; intro g9 w9 z9 S) | ((with_reducible refine gate_alloc rfl ?_); refine aAl S ?_; clear S; intro g9 w9 z9 S) | ((with_reducible refine gate_load rfl ?_); first | refine aLd S ?_ | refine aPt S ?_ | refine aL1 S ?_) | ((with_reducible refine gate_st rfl ?_); (first | refine aS1 S ?_ | refine aSt S ?_ | refine aSp S ?_); clear S; intro w9 S))
      have S' := S.zSt
      (refine' Sep.ret1_1 S rfl rfl ?rm32 Try.underlying26 rfl ts26 rfl rfl ?rp32; (case rm32 => (repeat (first | with_reducible exact List.mem_cons_self | with_reducible apply List.mem_cons_of_mem)) <;> fail))
      rw [R.out]
      exact S'.retOwn2 List.mem_cons_self
    | true =>
      have R := Lib.hid (show wdoV s o 4 = (doV s o 4, true) by unfold wdoV; rw [if_pos (by rw [MV.out]; exact m1)])
      have DV := Lib.hid (show doV s o 4 = ⟨3, s.vsn, s.want, s.sent, s.live, s.back, s.got⟩ by rfl)
      have M1 := Lib.hid m1
      clear m1 hn
      go_enter Try.func35, Try.ntmps35
      go_wp2_with (first
        | ((with_reducible refine gate_dst (N := 10) rfl ?_); refine aAl S ?_; clear S; intro gN w9 z9 S)
        | (go_at_call 59; (with_reducible refine (wayFind_r _ 4 wfV4).mono ?_); rintro e w9 ⟨rfl, f9⟩; replace S := S.fr f9; clear f9)
        | (go_at_call 19; (with_reducible refine (StateOk_r _ s _ (FIN.out _ S.frame) O1.out).mono ?_); rintro e w9 ⟨rfl, f9⟩; replace S := S.fr f9; clear f9)
        | (go_at_call 19; (with_reducible refine (StateOk_r _ o _ (FIO.out _ S.frame) O2.out).mono ?_); rintro e w9 ⟨rfl, f9⟩; replace S := S.fr f9; clear f9)
        | (go_at_call 72; (with_reducible refine (way4_r _ s o _ _ (FIN.out _ S.frame) (FIO.out _ S.frame) O1.out O2.out M1.out).mono ?_); rintro e w9 ⟨rfl, f9⟩; replace S := S.fr f9; clear f9)
        | (go_at_call 60; (with_reducible refine (stateCopy_c _ s _ (FIN.out _ S.frame) SM.out).mono ?_); rintro e w9 ⟨cs9, F9, rfl, h9, n9, b9, f9⟩; replace S := S.new (aOwn tSt _ cs9 F9) h9 n9 b9 f9; clear h9 n9 b9 f9; obtain ⟨A1, c1, A2, c2, A3, c3, A4, c4, F1, F2, F3, F4, rfl, rfl, hI, S⟩ := S.openSt)
        | (go_at_call 73; (with_reducible refine (wayDo4_c _ gN s.way s.vsn s.want _ _ _ _ (S.box (cs := [.int .i64 s.way, .int .i64 s.vsn, .int .i64 s.want, .slice A1 s.sent.length c1, .slice A2 s.live.length c2, .slice A3 s.back.length c3, .slice A4 s.got.length c4]) memA)).mono ?_); rintro e w9 ⟨rfl, k9, c9⟩; replace S := S.putBox (n' := 7) (cs' := [.int .i64 3, .int .i64 s.vsn, .int .i64 s.want, .slice A1 s.sent.length c1, .slice A2 s.live.length c2, .slice A3 s.back.length c3, .slice A4 s.got.length c4]) putA k9 rfl c9; clear k9 c9)
        | ((with_reducible refine gate_box rfl ?_); refine aBx S ?_; clear S; intro g9 w9 z9 S) | ((with_reducible refine gate_alloc rfl ?_); refine aAl S ?_; clear S; intro g9 w9 z9 S) | ((with_reducible refine gate_load rfl ?_); first | refine aLd S ?_ | refine aPt S ?_ | refine aL1 S ?_) | ((with_reducible refine gate_st rfl ?_); (first | refine aS1 S ?_ | refine aSt S ?_ | refine aSp S ?_); clear S; intro w9 S))
      have S' := Sep.shutSt (x := 3) (y := s.vsn) (z := s.want) (Sep.only4 (a1 := aRow tPk _ s.sent _ _) (a2 := aRow tBool _ s.live _ F2) (a3 := aRow tBool _ s.back _ F3) (a4 := aRow tInt _ s.got _ _) S delA delA delA delA) (by have := DR.out; rw [DV.out] at this; exact this)
      rw [← DV.out] at S'
      (refine' Sep.ret1_1 S rfl rfl ?rm33 Try.underlying26 rfl ts26 rfl rfl ?rp33; (case rm33 => (repeat (first | with_reducible exact List.mem_cons_self | with_reducible apply List.mem_cons_of_mem)) <;> fail))
      rw [R.out]
      exact S'.retOwn2 List.mem_cons_self
  · cases m1 : mayL s o 5 with
    | false =>
      have R := Lib.hid (show wdoV s o 5 = (zSt, false) by unfold wdoV; rw [MV.out, m1]; simp)
      have M1 := Lib.hid m1
      clear m1 hn
      go_enter Try.func35, Try.ntmps35
      go_wp2_with (first
        | (go_at_call 59; (with_reducible refine (wayFind_r _ 5 wfV5).mono ?_); rintro e w9 ⟨rfl, f9⟩; replace S := S.fr f9; clear f9)
        | (go_at_call 19; (with_reducible refine (StateOk_r _ s _ (FIN.out _ S.frame) O1.out).mono ?_); rintro e w9 ⟨rfl, f9⟩; replace S := S.fr f9; clear f9)
        | (go_at_call 19; (with_reducible refine (StateOk_r _ o _ (FIO.out _ S.frame) O2.out).mono ?_); rintro e w9 ⟨rfl, f9⟩; replace S := S.fr f9; clear f9)
        | (go_at_call 74; (with_reducible refine (way5_r _ s o _ _ (FIN.out _ S.frame) (FIO.out _ S.frame) O1.out O2.out M1.out).mono ?_); rintro e w9 ⟨rfl, f9⟩; replace S := S.fr f9; clear f9)
        | ((with_reducible refine gate_box rfl ?_); refine aBx S ?_; clear S; intro g9 w9 z9 S) | ((with_reducible refine gate_alloc rfl ?_); refine aAl S ?_; clear S; intro g9 w9 z9 S) | ((with_reducible refine gate_load rfl ?_); first | refine aLd S ?_ | refine aPt S ?_ | refine aL1 S ?_) | ((with_reducible refine gate_st rfl ?_); (first | refine aS1 S ?_ | refine aSt S ?_ | refine aSp S ?_); clear S; intro w9 S))
      have S' := S.zSt
      (refine' Sep.ret1_1 S rfl rfl ?rm34 Try.underlying26 rfl ts26 rfl rfl ?rp34; (case rm34 => (repeat (first | with_reducible exact List.mem_cons_self | with_reducible apply List.mem_cons_of_mem)) <;> fail))
      rw [R.out]
      exact S'.retOwn2 List.mem_cons_self
    | true =>
      have R := Lib.hid (show wdoV s o 5 = (doV s o 5, true) by unfold wdoV; rw [if_pos (by rw [MV.out]; exact m1)])
      have DV := Lib.hid (show doV s o 5 = ⟨4, s.vsn, (s.vsn + 1), s.sent, s.live, s.back, s.got⟩ by rfl)
      have M1 := Lib.hid m1
      clear m1 hn
      go_enter Try.func35, Try.ntmps35
      go_wp2_with (first
        | ((with_reducible refine gate_dst (N := 10) rfl ?_); refine aAl S ?_; clear S; intro gN w9 z9 S)
        | (go_at_call 59; (with_reducible refine (wayFind_r _ 5 wfV5).mono ?_); rintro e w9 ⟨rfl, f9⟩; replace S := S.fr f9; clear f9)
        | (go_at_call 19; (with_reducible refine (StateOk_r _ s _ (FIN.out _ S.frame) O1.out).mono ?_); rintro e w9 ⟨rfl, f9⟩; replace S := S.fr f9; clear f9)
        | (go_at_call 19; (with_reducible refine (StateOk_r _ o _ (FIO.out _ S.frame) O2.out).mono ?_); rintro e w9 ⟨rfl, f9⟩; replace S := S.fr f9; clear f9)
        | (go_at_call 74; (with_reducible refine (way5_r _ s o _ _ (FIN.out _ S.frame) (FIO.out _ S.frame) O1.out O2.out M1.out).mono ?_); rintro e w9 ⟨rfl, f9⟩; replace S := S.fr f9; clear f9)
        | (go_at_call 60; (with_reducible refine (stateCopy_c _ s _ (FIN.out _ S.frame) SM.out).mono ?_); rintro e w9 ⟨cs9, F9, rfl, h9, n9, b9, f9⟩; replace S := S.new (aOwn tSt _ cs9 F9) h9 n9 b9 f9; clear h9 n9 b9 f9; obtain ⟨A1, c1, A2, c2, A3, c3, A4, c4, F1, F2, F3, F4, rfl, rfl, hI, S⟩ := S.openSt)
        | (go_at_call 75; (with_reducible refine (wayDo5_c _ gN s.way s.vsn s.want _ _ _ _ VR.out (S.box (cs := [.int .i64 s.way, .int .i64 s.vsn, .int .i64 s.want, .slice A1 s.sent.length c1, .slice A2 s.live.length c2, .slice A3 s.back.length c3, .slice A4 s.got.length c4]) memA)).mono ?_); rintro e w9 ⟨rfl, k9, c9⟩; replace S := S.putBox (n' := 7) (cs' := [.int .i64 4, .int .i64 s.vsn, .int .i64 (s.vsn + 1), .slice A1 s.sent.length c1, .slice A2 s.live.length c2, .slice A3 s.back.length c3, .slice A4 s.got.length c4]) putA k9 rfl c9; clear k9 c9)
        | ((with_reducible refine gate_box rfl ?_); refine aBx S ?_; clear S; intro g9 w9 z9 S) | ((with_reducible refine gate_alloc rfl ?_); refine aAl S ?_; clear S; intro g9 w9 z9 S) | ((with_reducible refine gate_load rfl ?_); first | refine aLd S ?_ | refine aPt S ?_ | refine aL1 S ?_) | ((with_reducible refine gate_st rfl ?_); (first | refine aS1 S ?_ | refine aSt S ?_ | refine aSp S ?_); clear S; intro w9 S))
      have S' := Sep.shutSt (x := 4) (y := s.vsn) (z := (s.vsn + 1)) (Sep.only4 (a1 := aRow tPk _ s.sent _ _) (a2 := aRow tBool _ s.live _ F2) (a3 := aRow tBool _ s.back _ F3) (a4 := aRow tInt _ s.got _ _) S delA delA delA delA) (by have := DR.out; rw [DV.out] at this; exact this)
      rw [← DV.out] at S'
      (refine' Sep.ret1_1 S rfl rfl ?rm35 Try.underlying26 rfl ts26 rfl rfl ?rp35; (case rm35 => (repeat (first | with_reducible exact List.mem_cons_self | with_reducible apply List.mem_cons_of_mem)) <;> fail))
      rw [R.out]
      exact S'.retOwn2 List.mem_cons_self
  · cases m1 : mayL s o 6 with
    | false =>
      have R := Lib.hid (show wdoV s o 6 = (zSt, false) by unfold wdoV; rw [MV.out, m1]; simp)
      have M1 := Lib.hid m1
      clear m1 hn
      go_enter Try.func35, Try.ntmps35
      go_wp2_with (first
        | (go_at_call 59; (with_reducible refine (wayFind_r _ 6 wfV6).mono ?_); rintro e w9 ⟨rfl, f9⟩; replace S := S.fr f9; clear f9)
        | (go_at_call 19; (with_reducible refine (StateOk_r _ s _ (FIN.out _ S.frame) O1.out).mono ?_); rintro e w9 ⟨rfl, f9⟩; replace S := S.fr f9; clear f9)
        | (go_at_call 19; (with_reducible refine (StateOk_r _ o _ (FIO.out _ S.frame) O2.out).mono ?_); rintro e w9 ⟨rfl, f9⟩; replace S := S.fr f9; clear f9)
        | (go_at_call 76; (with_reducible refine (way6_r _ s o _ _ (FIN.out _ S.frame) (FIO.out _ S.frame) O1.out O2.out M1.out).mono ?_); rintro e w9 ⟨rfl, f9⟩; replace S := S.fr f9; clear f9)
        | ((with_reducible refine gate_box rfl ?_); refine aBx S ?_; clear S; intro g9 w9 z9 S) | ((with_reducible refine gate_alloc rfl ?_); refine aAl S ?_; clear S; intro g9 w9 z9 S) | ((with_reducible refine gate_load rfl ?_); first | refine aLd S ?_ | refine aPt S ?_ | refine aL1 S ?_) | ((with_reducible refine gate_st rfl ?_); (first | refine aS1 S ?_ | refine aSt S ?_ | refine aSp S ?_); clear S; intro w9 S))
      have S' := S.zSt
      (refine' Sep.ret1_1 S rfl rfl ?rm36 Try.underlying26 rfl ts26 rfl rfl ?rp36; (case rm36 => (repeat (first | with_reducible exact List.mem_cons_self | with_reducible apply List.mem_cons_of_mem)) <;> fail))
      rw [R.out]
      exact S'.retOwn2 List.mem_cons_self
    | true =>
      have R := Lib.hid (show wdoV s o 6 = (doV s o 6, true) by unfold wdoV; rw [if_pos (by rw [MV.out]; exact m1)])
      have DV := Lib.hid (show doV s o 6 = ⟨4, s.vsn, (s.vsn + 1), s.sent, s.live, s.back, s.got⟩ by unfold mayL at m1; simp only [Bool.and_eq_true, beq_iff_eq, Int.reduceEq, if_false, if_true, reduceIte] at m1; rw [← m1.2]; rfl)
      have M1 := Lib.hid m1
      clear m1 hn
      go_enter Try.func35, Try.ntmps35
      go_wp2_with (first
        | ((with_reducible refine gate_dst (N := 10) rfl ?_); refine aAl S ?_; clear S; intro gN w9 z9 S)
        | (go_at_call 59; (with_reducible refine (wayFind_r _ 6 wfV6).mono ?_); rintro e w9 ⟨rfl, f9⟩; replace S := S.fr f9; clear f9)
        | (go_at_call 19; (with_reducible refine (StateOk_r _ s _ (FIN.out _ S.frame) O1.out).mono ?_); rintro e w9 ⟨rfl, f9⟩; replace S := S.fr f9; clear f9)
        | (go_at_call 19; (with_reducible refine (StateOk_r _ o _ (FIO.out _ S.frame) O2.out).mono ?_); rintro e w9 ⟨rfl, f9⟩; replace S := S.fr f9; clear f9)
        | (go_at_call 76; (with_reducible refine (way6_r _ s o _ _ (FIN.out _ S.frame) (FIO.out _ S.frame) O1.out O2.out M1.out).mono ?_); rintro e w9 ⟨rfl, f9⟩; replace S := S.fr f9; clear f9)
        | (go_at_call 60; (with_reducible refine (stateCopy_c _ s _ (FIN.out _ S.frame) SM.out).mono ?_); rintro e w9 ⟨cs9, F9, rfl, h9, n9, b9, f9⟩; replace S := S.new (aOwn tSt _ cs9 F9) h9 n9 b9 f9; clear h9 n9 b9 f9; obtain ⟨A1, c1, A2, c2, A3, c3, A4, c4, F1, F2, F3, F4, rfl, rfl, hI, S⟩ := S.openSt)
        | (go_at_call 75; (with_reducible refine (wayDo5_c _ gN s.way s.vsn s.want _ _ _ _ VR.out (S.box (cs := [.int .i64 s.way, .int .i64 s.vsn, .int .i64 s.want, .slice A1 s.sent.length c1, .slice A2 s.live.length c2, .slice A3 s.back.length c3, .slice A4 s.got.length c4]) memA)).mono ?_); rintro e w9 ⟨rfl, k9, c9⟩; replace S := S.putBox (n' := 7) (cs' := [.int .i64 4, .int .i64 s.vsn, .int .i64 (s.vsn + 1), .slice A1 s.sent.length c1, .slice A2 s.live.length c2, .slice A3 s.back.length c3, .slice A4 s.got.length c4]) putA k9 rfl c9; clear k9 c9)
        | ((with_reducible refine gate_box rfl ?_); refine aBx S ?_; clear S; intro g9 w9 z9 S) | ((with_reducible refine gate_alloc rfl ?_); refine aAl S ?_; clear S; intro g9 w9 z9 S) | ((with_reducible refine gate_load rfl ?_); first | refine aLd S ?_ | refine aPt S ?_ | refine aL1 S ?_) | ((with_reducible refine gate_st rfl ?_); (first | refine aS1 S ?_ | refine aSt S ?_ | refine aSp S ?_); clear S; intro w9 S))
      have S' := Sep.shutSt (x := 4) (y := s.vsn) (z := (s.vsn + 1)) (Sep.only4 (a1 := aRow tPk _ s.sent _ _) (a2 := aRow tBool _ s.live _ F2) (a3 := aRow tBool _ s.back _ F3) (a4 := aRow tInt _ s.got _ _) S delA delA delA delA) (by have := DR.out; rw [DV.out] at this; exact this)
      rw [← DV.out] at S'
      (refine' Sep.ret1_1 S rfl rfl ?rm37 Try.underlying26 rfl ts26 rfl rfl ?rp37; (case rm37 => (repeat (first | with_reducible exact List.mem_cons_self | with_reducible apply List.mem_cons_of_mem)) <;> fail))
      rw [R.out]
      exact S'.retOwn2 List.mem_cons_self
  · cases m1 : mayL s o 7 with
    | false =>
      have R := Lib.hid (show wdoV s o 7 = (zSt, false) by unfold wdoV; rw [MV.out, m1]; simp)
      have M1 := Lib.hid m1
      clear m1 hn
      go_enter Try.func35, Try.ntmps35
      go_wp2_with (first
        | (go_at_call 59; (with_reducible refine (wayFind_r _ 7 wfV7).mono ?_); rintro e w9 ⟨rfl, f9⟩; replace S := S.fr f9; clear f9)
        | (go_at_call 19; (with_reducible refine (StateOk_r _ s _ (FIN.out _ S.frame) O1.out).mono ?_); rintro e w9 ⟨rfl, f9⟩; replace S := S.fr f9; clear f9)
        | (go_at_call 19; (with_reducible refine (StateOk_r _ o _ (FIO.out _ S.frame) O2.out).mono ?_); rintro e w9 ⟨rfl, f9⟩; replace S := S.fr f9; clear f9)
        | (go_at_call 77; (with_reducible refine (way7_r _ s o _ _ (FIN.out _ S.frame) (FIO.out _ S.frame) O1.out O2.out M1.out).mono ?_); rintro e w9 ⟨rfl, f9⟩; replace S := S.fr f9; clear f9)
        | ((with_reducible refine gate_box rfl ?_); refine aBx S ?_; clear S; intro g9 w9 z9 S) | ((with_reducible refine gate_alloc rfl ?_); refine aAl S ?_; clear S; intro g9 w9 z9 S) | ((with_reducible refine gate_load rfl ?_); first | refine aLd S ?_ | refine aPt S ?_ | refine aL1 S ?_) | ((with_reducible refine gate_st rfl ?_); (first | refine aS1 S ?_ | refine aSt S ?_ | refine aSp S ?_); clear S; intro w9 S))
      have S' := S.zSt
      (refine' Sep.ret1_1 S rfl rfl ?rm38 Try.underlying26 rfl ts26 rfl rfl ?rp38; (case rm38 => (repeat (first | with_reducible exact List.mem_cons_self | with_reducible apply List.mem_cons_of_mem)) <;> fail))
      rw [R.out]
      exact S'.retOwn2 List.mem_cons_self
    | true =>
      have R := Lib.hid (show wdoV s o 7 = (doV s o 7, true) by unfold wdoV; rw [if_pos (by rw [MV.out]; exact m1)])
      have DV := Lib.hid (show doV s o 7 = ⟨3, s.want, 0, s.sent, s.live, s.back, s.got⟩ by rfl)
      have M1 := Lib.hid m1
      clear m1 hn
      go_enter Try.func35, Try.ntmps35
      go_wp2_with (first
        | ((with_reducible refine gate_dst (N := 10) rfl ?_); refine aAl S ?_; clear S; intro gN w9 z9 S)
        | (go_at_call 59; (with_reducible refine (wayFind_r _ 7 wfV7).mono ?_); rintro e w9 ⟨rfl, f9⟩; replace S := S.fr f9; clear f9)
        | (go_at_call 19; (with_reducible refine (StateOk_r _ s _ (FIN.out _ S.frame) O1.out).mono ?_); rintro e w9 ⟨rfl, f9⟩; replace S := S.fr f9; clear f9)
        | (go_at_call 19; (with_reducible refine (StateOk_r _ o _ (FIO.out _ S.frame) O2.out).mono ?_); rintro e w9 ⟨rfl, f9⟩; replace S := S.fr f9; clear f9)
        | (go_at_call 77; (with_reducible refine (way7_r _ s o _ _ (FIN.out _ S.frame) (FIO.out _ S.frame) O1.out O2.out M1.out).mono ?_); rintro e w9 ⟨rfl, f9⟩; replace S := S.fr f9; clear f9)
        | (go_at_call 60; (with_reducible refine (stateCopy_c _ s _ (FIN.out _ S.frame) SM.out).mono ?_); rintro e w9 ⟨cs9, F9, rfl, h9, n9, b9, f9⟩; replace S := S.new (aOwn tSt _ cs9 F9) h9 n9 b9 f9; clear h9 n9 b9 f9; obtain ⟨A1, c1, A2, c2, A3, c3, A4, c4, F1, F2, F3, F4, rfl, rfl, hI, S⟩ := S.openSt)
        | (go_at_call 78; (with_reducible refine (wayDo6_c _ gN s.way s.vsn s.want _ _ _ _ (S.box (cs := [.int .i64 s.way, .int .i64 s.vsn, .int .i64 s.want, .slice A1 s.sent.length c1, .slice A2 s.live.length c2, .slice A3 s.back.length c3, .slice A4 s.got.length c4]) memA)).mono ?_); rintro e w9 ⟨rfl, k9, c9⟩; replace S := S.putBox (n' := 7) (cs' := [.int .i64 3, .int .i64 s.want, .int .i64 0, .slice A1 s.sent.length c1, .slice A2 s.live.length c2, .slice A3 s.back.length c3, .slice A4 s.got.length c4]) putA k9 rfl c9; clear k9 c9)
        | ((with_reducible refine gate_box rfl ?_); refine aBx S ?_; clear S; intro g9 w9 z9 S) | ((with_reducible refine gate_alloc rfl ?_); refine aAl S ?_; clear S; intro g9 w9 z9 S) | ((with_reducible refine gate_load rfl ?_); first | refine aLd S ?_ | refine aPt S ?_ | refine aL1 S ?_) | ((with_reducible refine gate_st rfl ?_); (first | refine aS1 S ?_ | refine aSt S ?_ | refine aSp S ?_); clear S; intro w9 S))
      have S' := Sep.shutSt (x := 3) (y := s.want) (z := 0) (Sep.only4 (a1 := aRow tPk _ s.sent _ _) (a2 := aRow tBool _ s.live _ F2) (a3 := aRow tBool _ s.back _ F3) (a4 := aRow tInt _ s.got _ _) S delA delA delA delA) (by have := DR.out; rw [DV.out] at this; exact this)
      rw [← DV.out] at S'
      (refine' Sep.ret1_1 S rfl rfl ?rm39 Try.underlying26 rfl ts26 rfl rfl ?rp39; (case rm39 => (repeat (first | with_reducible exact List.mem_cons_self | with_reducible apply List.mem_cons_of_mem)) <;> fail))
      rw [R.out]
      exact S'.retOwn2 List.mem_cons_self
end Go.Proofs.Ythnjambkgldjdaa
