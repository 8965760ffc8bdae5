/- What a step does: the program's steps that write through a pointer. -/
import Derived.Test.YthnjambkgldjdaaWay5
namespace Go.Proofs.Ythnjambkgldjdaa
set_option linter.unusedVariables false
set_option linter.unusedSimpArgs false
open Go.RowKit
theorem Sep.startBox {w : World} {g t n : Nat} {cs : List Value} (k : Box w g t cs.toArray) (hn : cs.length = n) : Sep [g] w [aBox g t n cs] w :=
  ⟨Chg.refl _ _, (fun a ha => by rw [List.mem_singleton.1 ha]; exact ⟨k, hn⟩), (fun a ha q hq => by rw [List.mem_singleton.1 ha] at hq; exact .inl hq), by simp [fps, aBox]⟩
set_option maxHeartbeats 1600000 in
theorem wayDo1_c (w : World) (g : Nat) (x y z : Int) (v1 v2 v3 v4 : Value) (k : Box w g 26 #[.int .i64 x, .int .i64 y, .int .i64 z, v1, v2, v3, v4]) : Calls Try.prog 67 #[.pointer (some ⟨g, 0, none⟩)] w fun e w' => e = .returned (.tuple #[]) ∧ Box w' g 26 #[.int .i64 1, .int .i64 y, .int .i64 z, v1, v2, v3, v4] ∧ Chg [g] w w' := by
  have S := Sep.startBox (n := 7) (cs := [.int .i64 x, .int .i64 y, .int .i64 z, v1, v2, v3, v4]) k rfl
  go_enter Try.func67, Try.ntmps67
  go_wp2_with (first | ((with_reducible refine gate_box rfl ?_); refine aBx S ?_; clear S; intro g9 w9 z9 S) | ((with_reducible refine gate_alloc rfl ?_); refine aAl S ?_; clear S; intro g9 w9 z9 S) | ((with_reducible refine gate_load rfl ?_); first | refine aLd S ?_ | refine aPt S ?_ | refine aL1 S ?_) | ((with_reducible refine gate_st rfl ?_); (first | refine aS1 S ?_ | refine aSt S ?_ | refine aSp S ?_); clear S; intro w9 S))
  (try simp only [Exit.inBlock, Exit.then])
  refine bodyPost_end (results_none rfl _ _ _) rfl ?_
  exact ⟨rfl, S.box memA, S.chg⟩
set_option maxHeartbeats 1600000 in
theorem wayDo2_c (w : World) (g : Nat) (x y z : Int) (v1 v2 v3 v4 : Value) (k : Box w g 26 #[.int .i64 x, .int .i64 y, .int .i64 z, v1, v2, v3, v4]) : Calls Try.prog 69 #[.pointer (some ⟨g, 0, none⟩)] w fun e w' => e = .returned (.tuple #[]) ∧ Box w' g 26 #[.int .i64 2, .int .i64 y, .int .i64 z, v1, v2, v3, v4] ∧ Chg [g] w w' := by
  have S := Sep.startBox (n := 7) (cs := [.int .i64 x, .int .i64 y, .int .i64 z, v1, v2, v3, v4]) k rfl
  go_enter Try.func69, Try.ntmps69
  go_wp2_with (first | ((with_reducible refine gate_box rfl ?_); refine aBx S ?_; clear S; intro g9 w9 z9 S) | ((with_reducible refine gate_alloc rfl ?_); refine aAl S ?_; clear S; intro g9 w9 z9 S) | ((with_reducible refine gate_load rfl ?_); first | refine aLd S ?_ | refine aPt S ?_ | refine aL1 S ?_) | ((with_reducible refine gate_st rfl ?_); (first | refine aS1 S ?_ | refine aSt S ?_ | refine aSp S ?_); clear S; intro w9 S))
  (try simp only [Exit.inBlock, Exit.then])
  refine bodyPost_end (results_none rfl _ _ _) rfl ?_
  exact ⟨rfl, S.box memA, S.chg⟩
set_option maxHeartbeats 1600000 in
theorem wayDo3_c (w : World) (g : Nat) (x y z : Int) (v1 v2 v3 v4 : Value) (k : Box w g 26 #[.int .i64 x, .int .i64 y, .int .i64 z, v1, v2, v3, v4]) : Calls Try.prog 71 #[.pointer (some ⟨g, 0, none⟩)] w fun e w' => e = .returned (.tuple #[]) ∧ Box w' g 26 #[.int .i64 3, .int .i64 y, .int .i64 z, v1, v2, v3, v4] ∧ Chg [g] w w' := by
  have S := Sep.startBox (n := 7) (cs := [.int .i64 x, .int .i64 y, .int .i64 z, v1, v2, v3, v4]) k rfl
  go_enter Try.func71, Try.ntmps71
  go_wp2_with (first | ((with_reducible refine gate_box rfl ?_); refine aBx S ?_; clear S; intro g9 w9 z9 S) | ((with_reducible refine gate_alloc rfl ?_); refine aAl S ?_; clear S; intro g9 w9 z9 S) | ((with_reducible refine gate_load rfl ?_); first | refine aLd S ?_ | refine aPt S ?_ | refine aL1 S ?_) | ((with_reducible refine gate_st rfl ?_); (first | refine aS1 S ?_ | refine aSt S ?_ | refine aSp S ?_); clear S; intro w9 S))
  (try simp only [Exit.inBlock, Exit.then])
  refine bodyPost_end (results_none rfl _ _ _) rfl ?_
  exact ⟨rfl, S.box memA, S.chg⟩
set_option maxHeartbeats 1600000 in
theorem wayDo4_c (w : World) (g : Nat) (x y z : Int) (v1 v2 v3 v4 : Value) (k : Box w g 26 #[.int .i64 x, .int .i64 y, .int .i64 z, v1, v2, v3, v4]) : Calls Try.prog 73 #[.pointer (some ⟨g, 0, none⟩)] w fun e w' => e = .returned (.tuple #[]) ∧ Box w' g 26 #[.int .i64 3, .int .i64 y, .int .i64 z, v1, v2, v3, v4] ∧ Chg [g] w w' := by
  have S := Sep.startBox (n := 7) (cs := [.int .i64 x, .int .i64 y, .int .i64 z, v1, v2, v3, v4]) k rfl
  go_enter Try.func73, Try.ntmps73
  go_wp2_with (first | ((with_reducible refine gate_box rfl ?_); refine aBx S ?_; clear S; intro g9 w9 z9 S) | ((with_reducible refine gate_alloc rfl ?_); refine aAl S ?_; clear S; intro g9 w9 z9 S) | ((with_reducible refine gate_load rfl ?_); first | refine aLd S ?_ | refine aPt S ?_ | refine aL1 S ?_) | ((with_reducible refine gate_st rfl ?_); (first | refine aS1 S ?_ | refine aSt S ?_ | refine aSp S ?_); clear S; intro w9 S))
  (try simp only [Exit.inBlock, Exit.then])
  refine bodyPost_end (results_none rfl _ _ _) rfl ?_
  exact ⟨rfl, S.box memA, S.chg⟩
set_option maxHeartbeats 1600000 in
theorem wayDo5_c (w : World) (g : Nat) (x y z : Int) (v1 v2 v3 v4 : Value) (hy : 1 ≤ y ∧ y ≤ 9) (k : Box w g 26 #[.int .i64 x, .int .i64 y, .int .i64 z, v1, v2, v3, v4]) : Calls Try.prog 75 #[.pointer (some ⟨g, 0, none⟩)] w fun e w' => e = .returned (.tuple #[]) ∧ Box w' g 26 #[.int .i64 4, .int .i64 y, .int .i64 (y + 1), v1, v2, v3, v4] ∧ Chg [g] w w' := by
  have S := Sep.startBox (n := 7) (cs := [.int .i64 x, .int .i64 y, .int .i64 z, v1, v2, v3, v4]) k rfl
  have pw : IntKind.i64.wrap (y + 1) = y + 1 := IntWalk.i64_in _ (by omega)
  clear hy
  go_enter Try.func75, Try.ntmps75
  go_wp2_with (first | ((with_reducible refine gate_box rfl ?_); refine aBx S ?_; clear S; intro g9 w9 z9 S) | ((with_reducible refine gate_alloc rfl ?_); refine aAl S ?_; clear S; intro g9 w9 z9 S) | ((with_reducible refine gate_load rfl ?_); first | refine aLd S ?_ | refine aPt S ?_ | refine aL1 S ?_) | ((with_reducible refine gate_st rfl ?_); (first | refine aS1 S ?_ | refine aSt S ?_ | refine aSp S ?_); clear S; intro w9 S))
  (try simp only [Exit.inBlock, Exit.then])
  refine bodyPost_end (results_none rfl _ _ _) rfl ?_
  exact ⟨rfl, S.box memA, S.chg⟩
set_option maxHeartbeats 1600000 in
theorem wayDo6_c (w : World) (g : Nat) (x y z : Int) (v1 v2 v3 v4 : Value) (k : Box w g 26 #[.int .i64 x, .int .i64 y, .int .i64 z, v1, v2, v3, v4]) : Calls Try.prog 78 #[.pointer (some ⟨g, 0, none⟩)] w fun e w' => e = .returned (.tuple #[]) ∧ Box w' g 26 #[.int .i64 3, .int .i64 z, .int .i64 0, v1, v2, v3, v4] ∧ Chg [g] w w' := by
  have S := Sep.startBox (n := 7) (cs := [.int .i64 x, .int .i64 y, .int .i64 z, v1, v2, v3, v4]) k rfl
  go_enter Try.func78, Try.ntmps78
  go_wp2_with (first | ((with_reducible refine gate_box rfl ?_); refine aBx S ?_; clear S; intro g9 w9 z9 S) | ((with_reducible refine gate_alloc rfl ?_); refine aAl S ?_; clear S; intro g9 w9 z9 S) | ((with_reducible refine gate_load rfl ?_); first | refine aLd S ?_ | refine aPt S ?_ | refine aL1 S ?_) | ((with_reducible refine gate_st rfl ?_); (first | refine aS1 S ?_ | refine aSt S ?_ | refine aSp S ?_); clear S; intro w9 S))
  (try simp only [Exit.inBlock, Exit.then])
  refine bodyPost_end (results_none rfl _ _ _) rfl ?_
  exact ⟨rfl, S.box memA, S.chg⟩
end Go.Proofs.Ythnjambkgldjdaa
