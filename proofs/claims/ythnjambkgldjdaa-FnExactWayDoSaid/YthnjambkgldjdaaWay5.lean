/- What a step does: the reference's l11Do. -/
import Derived.Test.YthnjambkgldjdaaWay2
namespace Go.Proofs.Ythnjambkgldjdaa
set_option linter.unusedVariables false
set_option linter.unusedSimpArgs false
open Go.RowKit
def doV (s o : St) (n : Int) : St :=
  if n = 1 then { s with way := 1 }
  else if n = 2 then { s with way := 2 }
  else if n = 3 then { s with way := 3 }
  else if n = 4 then { s with way := 3 }
  else if n = 5 then { s with way := 4, want := s.vsn + 1 }
  else if n = 6 then { s with way := 4, want := o.want }
  else if n = 7 then { s with way := 3, vsn := s.want, want := 0 }
  else s
set_option maxRecDepth 100000 in
set_option maxHeartbeats 3200000 in
theorem l11Do_c (w : World) (s o : St) (v1 v2 v3 v4 x1 x2 x3 x4 : Value) (n : Int) (hv : 1 ≤ s.vsn ∧ s.vsn ≤ 9) (g1 : v1.oneCell' = true) (g2 : v2.oneCell' = true) (g3 : v3.oneCell' = true) (g4 : v4.oneCell' = true) :
    Calls Try.prog 57 #[.agg #[.int .i64 s.way, .int .i64 s.vsn, .int .i64 s.want, v1, v2, v3, v4], .agg #[.int .i64 o.way, .int .i64 o.vsn, .int .i64 o.want, x1, x2, x3, x4], .int .i64 n] w
      (Ret (.agg #[.int .i64 (doV s o n).way, .int .i64 (doV s o n).vsn, .int .i64 (doV s o n).want, v1, v2, v3, v4]) w) := by
  have S := Sep.start w
  have pw : IntKind.i64.wrap (s.vsn + 1) = s.vsn + 1 := IntWalk.i64_in _ (by omega)
  have PW := Lib.hid pw
  clear hv
  by_cases n1 : n = 1
  · subst n1
    show Calls _ _ _ w (Ret (.agg #[.int .i64 1, .int .i64 s.vsn, .int .i64 s.want, v1, v2, v3, v4]) w)
    clear pw
    go_enter Try.func57, Try.ntmps57
    go_wp2_with (first
      | ((with_reducible refine gate_dst (N := 3) rfl ?_); refine aBx S ?_; clear S; intro gS w9 z9 S)
      | ((with_reducible refine gate_dst (N := 4) rfl ?_); refine aBx S ?_; clear S; intro gO w9 z9 S)
      | ((with_reducible refine gate_dst (N := 6) rfl ?_); refine aAl S ?_; clear S; intro gR w9 z9 S)
      | ((with_reducible refine gate_box rfl ?_); refine aBx S ?_; clear S; intro g9 w9 z9 S) | ((with_reducible refine gate_alloc rfl ?_); refine aAl S ?_; clear S; intro g9 w9 z9 S) | ((with_reducible refine gate_load rfl ?_); first | refine aLd S ?_ | refine aPt S ?_ | refine aL1 S ?_) | ((with_reducible refine gate_st rfl ?_); (first | refine aSt S ?_ | refine aS1 S ?_ | refine aSp S ?_); clear S; intro w9 S))
    (refine' Sep.ret1 S rfl rfl ?rm1 Try.underlying26 rfl ts26 rfl ?rp1; (case rm1 => (repeat (first | with_reducible exact List.mem_cons_self | with_reducible apply List.mem_cons_of_mem)) <;> fail))
    exact ⟨rfl, S.frame⟩
  by_cases n2 : n = 2
  · subst n2
    show Calls _ _ _ w (Ret (.agg #[.int .i64 2, .int .i64 s.vsn, .int .i64 s.want, v1, v2, v3, v4]) w)
    clear pw
    go_enter Try.func57, Try.ntmps57
    go_wp2_with (first
      | ((with_reducible refine gate_dst (N := 3) rfl ?_); refine aBx S ?_; clear S; intro gS w9 z9 S)
      | ((with_reducible refine gate_dst (N := 4) rfl ?_); refine aBx S ?_; clear S; intro gO w9 z9 S)
      | ((with_reducible refine gate_dst (N := 6) rfl ?_); refine aAl S ?_; clear S; intro gR w9 z9 S)
      | ((with_reducible refine gate_box rfl ?_); refine aBx S ?_; clear S; intro g9 w9 z9 S) | ((with_reducible refine gate_alloc rfl ?_); refine aAl S ?_; clear S; intro g9 w9 z9 S) | ((with_reducible refine gate_load rfl ?_); first | refine aLd S ?_ | refine aPt S ?_ | refine aL1 S ?_) | ((with_reducible refine gate_st rfl ?_); (first | refine aSt S ?_ | refine aS1 S ?_ | refine aSp S ?_); clear S; intro w9 S))
    (refine' Sep.ret1 S rfl rfl ?rm2 Try.underlying26 rfl ts26 rfl ?rp2; (case rm2 => (repeat (first | with_reducible exact List.mem_cons_self | with_reducible apply List.mem_cons_of_mem)) <;> fail))
    exact ⟨rfl, S.frame⟩
  by_cases n3 : n = 3
  · subst n3
    show Calls _ _ _ w (Ret (.agg #[.int .i64 3, .int .i64 s.vsn, .int .i64 s.want, v1, v2, v3, v4]) w)
    clear pw
    go_enter Try.func57, Try.ntmps57
    go_wp2_with (first
      | ((with_reducible refine gate_dst (N := 3) rfl ?_); refine aBx S ?_; clear S; intro gS w9 z9 S)
      | ((with_reducible refine gate_dst (N := 4) rfl ?_); refine aBx S ?_; clear S; intro gO w9 z9 S)
      | ((with_reducible refine gate_dst (N := 6) rfl ?_); refine aAl S ?_; clear S; intro gR w9 z9 S)
      | ((with_reducible refine gate_box rfl ?_); refine aBx S ?_; clear S; intro g9 w9 z9 S) | ((with_reducible refine gate_alloc rfl ?_); refine aAl S ?_; clear S; intro g9 w9 z9 S) | ((with_reducible refine gate_load rfl ?_); first | refine aLd S ?_ | refine aPt S ?_ | refine aL1 S ?_) | ((with_reducible refine gate_st rfl ?_); (first | refine aSt S ?_ | refine aS1 S ?_ | refine aSp S ?_); clear S; intro w9 S))
    (refine' Sep.ret1 S rfl rfl ?rm3 Try.underlying26 rfl ts26 rfl ?rp3; (case rm3 => (repeat (first | with_reducible exact List.mem_cons_self | with_reducible apply List.mem_cons_of_mem)) <;> fail))
    exact ⟨rfl, S.frame⟩
  by_cases n4 : n = 4
  · subst n4
    show Calls _ _ _ w (Ret (.agg #[.int .i64 3, .int .i64 s.vsn, .int .i64 s.want, v1, v2, v3, v4]) w)
    clear pw
    go_enter Try.func57, Try.ntmps57
    go_wp2_with (first
      | ((with_reducible refine gate_dst (N := 3) rfl ?_); refine aBx S ?_; clear S; intro gS w9 z9 S)
      | ((with_reducible refine gate_dst (N := 4) rfl ?_); refine aBx S ?_; clear S; intro gO w9 z9 S)
      | ((with_reducible refine gate_dst (N := 6) rfl ?_); refine aAl S ?_; clear S; intro gR w9 z9 S)
      | ((with_reducible refine gate_box rfl ?_); refine aBx S ?_; clear S; intro g9 w9 z9 S) | ((with_reducible refine gate_alloc rfl ?_); refine aAl S ?_; clear S; intro g9 w9 z9 S) | ((with_reducible refine gate_load rfl ?_); first | refine aLd S ?_ | refine aPt S ?_ | refine aL1 S ?_) | ((with_reducible refine gate_st rfl ?_); (first | refine aSt S ?_ | refine aS1 S ?_ | refine aSp S ?_); clear S; intro w9 S))
    (refine' Sep.ret1 S rfl rfl ?rm4 Try.underlying26 rfl ts26 rfl ?rp4; (case rm4 => (repeat (first | with_reducible exact List.mem_cons_self | with_reducible apply List.mem_cons_of_mem)) <;> fail))
    exact ⟨rfl, S.frame⟩
  by_cases n5 : n = 5
  · subst n5
    show Calls _ _ _ w (Ret (.agg #[.int .i64 4, .int .i64 s.vsn, .int .i64 (s.vsn + 1), v1, v2, v3, v4]) w)
    go_enter Try.func57, Try.ntmps57
    go_wp2_with (first
      | ((with_reducible refine gate_dst (N := 3) rfl ?_); refine aBx S ?_; clear S; intro gS w9 z9 S)
      | ((with_reducible refine gate_dst (N := 4) rfl ?_); refine aBx S ?_; clear S; intro gO w9 z9 S)
      | ((with_reducible refine gate_dst (N := 6) rfl ?_); refine aAl S ?_; clear S; intro gR w9 z9 S)
      | ((with_reducible refine gate_box rfl ?_); refine aBx S ?_; clear S; intro g9 w9 z9 S) | ((with_reducible refine gate_alloc rfl ?_); refine aAl S ?_; clear S; intro g9 w9 z9 S) | ((with_reducible refine gate_load rfl ?_); first | refine aLd S ?_ | refine aPt S ?_ | refine aL1 S ?_) | ((with_reducible refine gate_st rfl ?_); (first | refine aSt S ?_ | refine aS1 S ?_ | refine aSp S ?_); clear S; intro w9 S))
    (refine' Sep.ret1 S rfl rfl ?rm5 Try.underlying26 rfl ts26 rfl ?rp5; (case rm5 => (repeat (first | with_reducible exact List.mem_cons_self | with_reducible apply List.mem_cons_of_mem)) <;> fail))
    exact ⟨rfl, S.frame⟩
  by_cases n6 : n = 6
  · subst n6
    show Calls _ _ _ w (Ret (.agg #[.int .i64 4, .int .i64 s.vsn, .int .i64 o.want, v1, v2, v3, v4]) w)
    clear pw
    go_enter Try.func57, Try.ntmps57
    go_wp2_with (first
      | ((with_reducible refine gate_dst (N := 3) rfl ?_); refine aBx S ?_; clear S; intro gS w9 z9 S)
      | ((with_reducible refine gate_dst (N := 4) rfl ?_); refine aBx S ?_; clear S; intro gO w9 z9 S)
      | ((with_reducible refine gate_dst (N := 6) rfl ?_); refine aAl S ?_; clear S; intro gR w9 z9 S)
      | ((with_reducible refine gate_box rfl ?_); refine aBx S ?_; clear S; intro g9 w9 z9 S) | ((with_reducible refine gate_alloc rfl ?_); refine aAl S ?_; clear S; intro g9 w9 z9 S) | ((with_reducible refine gate_load rfl ?_); first | refine aLd S ?_ | refine aPt S ?_ | refine aL1 S ?_) | ((with_reducible refine gate_st rfl ?_); (first | refine aSt S ?_ | refine aS1 S ?_ | refine aSp S ?_); clear S; intro w9 S))
    (refine' Sep.ret1 S rfl rfl ?rm6 Try.underlying26 rfl ts26 rfl ?rp6; (case rm6 => (repeat (first | with_reducible exact List.mem_cons_self | with_reducible apply List.mem_cons_of_mem)) <;> fail))
    exact ⟨rfl, S.frame⟩
  by_cases n7 : n = 7
  · subst n7
    show Calls _ _ _ w (Ret (.agg #[.int .i64 3, .int .i64 s.want, .int .i64 0, v1, v2, v3, v4]) w)
    clear pw
    go_enter Try.func57, Try.ntmps57
    go_wp2_with (first
      | ((with_reducible refine gate_dst (N := 3) rfl ?_); refine aBx S ?_; clear S; intro gS w9 z9 S)
      | ((with_reducible refine gate_dst (N := 4) rfl ?_); refine aBx S ?_; clear S; intro gO w9 z9 S)
      | ((with_reducible refine gate_dst (N := 6) rfl ?_); refine aAl S ?_; clear S; intro gR w9 z9 S)
      | ((with_reducible refine gate_box rfl ?_); refine aBx S ?_; clear S; intro g9 w9 z9 S) | ((with_reducible refine gate_alloc rfl ?_); refine aAl S ?_; clear S; intro g9 w9 z9 S) | ((with_reducible refine gate_load rfl ?_); first | refine aLd S ?_ | refine aPt S ?_ | refine aL1 S ?_) | ((with_reducible refine gate_st rfl ?_); (first | refine aSt S ?_ | refine aS1 S ?_ | refine aSp S ?_); clear S; intro w9 S))
    (refine' Sep.ret1 S rfl rfl ?rm7 Try.underlying26 rfl ts26 rfl ?rp7; (case rm7 => (repeat (first | with_reducible exact List.mem_cons_self | with_reducible apply List.mem_cons_of_mem)) <;> fail))
    exact ⟨rfl, S.frame⟩
  have E : doV s o n = s := by unfold doV; rw [if_neg n1, if_neg n2, if_neg n3, if_neg n4, if_neg n5, if_neg n6, if_neg n7]
  rw [E]
  have b1 : (n == 1) = false := by simpa using n1
  have b2 : (n == 2) = false := by simpa using n2
  have b3 : (n == 3) = false := by simpa using n3
  have b4 : (n == 4) = false := by simpa using n4
  have b5 : (n == 5) = false := by simpa using n5
  have b6 : (n == 6) = false := by simpa using n6
  have b7 : (n == 7) = false := by simpa using n7
  clear n1 n2 n3 n4 n5 n6 n7 pw E
  go_enter Try.func57, Try.ntmps57
  go_wp2_with (first
    | ((with_reducible refine gate_dst (N := 3) rfl ?_); refine aBx S ?_; clear S; intro gS w9 z9 S)
    | ((with_reducible refine gate_dst (N := 4) rfl ?_); refine aBx S ?_; clear S; intro gO w9 z9 S)
    | ((with_reducible refine gate_dst (N := 6) rfl ?_); refine aAl S ?_; clear S; intro gR w9 z9 S)
    | ((with_reducible refine gate_box rfl ?_); refine aBx S ?_; clear S; intro g9 w9 z9 S) | ((with_reducible refine gate_alloc rfl ?_); refine aAl S ?_; clear S; intro g9 w9 z9 S) | ((with_reducible refine gate_load rfl ?_); first | refine aLd S ?_ | refine aPt S ?_ | refine aL1 S ?_) | ((with_reducible refine gate_st rfl ?_); (first | refine aSt S ?_ | refine aS1 S ?_ | refine aSp S ?_); clear S; intro w9 S))
  (refine' Sep.ret1 S rfl rfl ?rm8 Try.underlying26 rfl ts26 rfl ?rp8; (case rm8 => (repeat (first | with_reducible exact List.mem_cons_self | with_reducible apply List.mem_cons_of_mem)) <;> fail))
  exact ⟨rfl, S.frame⟩
end Go.Proofs.Ythnjambkgldjdaa
