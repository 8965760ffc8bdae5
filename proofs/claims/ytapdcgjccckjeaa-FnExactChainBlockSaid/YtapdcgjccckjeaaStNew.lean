/- The state at the beginning: the program's and the reference's StateNew. -/
import Derived.Test.YtapdcgjccckjeaaStHelp
namespace Go.Proofs.Ytapdcgjccckjeaa
set_option maxRecDepth 100000
set_option linter.unusedVariables false
set_option linter.unusedSimpArgs false
open Go.RowKit
def newSt : St := ⟨0, 1, 0, [], [], [], List.replicate 8 0⟩
theorem newSt_I : I64 0 ∧ I64 1 ∧ I64 0 := by unfold I64; omega
theorem make8 (W : World) : (Instr.makeSlice 24 (.int .i64 8) (.int .i64 8)).run Try.prog W = .ok (.slice (some ⟨W.heap.size, 0, none⟩) 8 8) (W.alloc (.cells #[.int .i64 0, .int .i64 0, .int .i64 0, .int .i64 0, .int .i64 0, .int .i64 0, .int .i64 0, .int .i64 0] 3)) := by kernel_rfl
set_option maxHeartbeats 800000 in
theorem StateNew_c (w : World) : Calls Try.prog 23 #[] w (RetOwn tSt newSt w) := by
  have S := Sep.start w
  have hmk := make8
  go_enter Try.func23, Try.ntmps23
  go_wp2_with (first
    | ((with_reducible refine gate_dst (N := 1) rfl ?_); refine wpList_smade S (by rfl) tInt 3 0 [.int .i64 0] 8 (fun _ => ⟨rfl, rfl⟩) (by decide) #[.int .i64 0, .int .i64 0, .int .i64 0, .int .i64 0, .int .i64 0, .int .i64 0, .int .i64 0, .int .i64 0] (by kernel_rfl) (by first | (go_simp; done) | (go_simp; rfl)) ?_; clear S; intro g1 w9 z9 S)
    | ((with_reducible refine gate_box rfl ?_); refine aBx S ?_; clear S; intro g9 w9 z9 S) | ((with_reducible refine gate_alloc rfl ?_); refine aAl S ?_; clear S; intro g9 w9 z9 S) | ((with_reducible refine gate_load rfl ?_); first | refine aLd S ?_ | refine aPt S ?_ | refine aL1 S ?_) | ((with_reducible refine gate_st rfl ?_); (first | refine aS1 S ?_ | refine aSt S ?_ | refine aSp S ?_); clear S; intro w9 S))
  have S1 := ((S.addNil tBool 4).addNil tBool 4).addNil tPk 88
  have S := S1
  have S' := Sep.shutSt (L := []) (x := 0) (y := 1) (z := 0) (Sep.only4 (a1 := aRow tPk _ _ _ _) (a2 := aRow tBool _ _ _ _) (a3 := aRow tBool _ _ _ _) (a4 := aRow tInt _ _ _ _) S delA delA delA delA) newSt_I
  (refine Sep.ret1 S rfl rfl memA Try.underlying30 rfl ts30 rfl ?_)
  exact S'.retOwn List.mem_cons_self
set_option maxHeartbeats 800000 in
theorem sStateNew_c (w : World) : Calls Try.prog 63 #[] w (RetOwn tSt newSt w) := by
  have S := Sep.start w
  have hmk := make8
  go_enter Try.func63, Try.ntmps63
  go_wp2_with (first
    | ((with_reducible refine gate_dst (N := 1) rfl ?_); refine wpList_smade S (by rfl) tPk 88 zPk zPk.cells 0 (fun _ => ⟨⟨rfl, zPk_ok⟩, rfl⟩) (by decide) #[] (by kernel_rfl) (by first | (go_simp; done) | (go_simp; rfl)) ?_; clear S; intro g1 w9 z9 S)
    | ((with_reducible refine gate_dst (N := 2) rfl ?_); refine wpList_smade S (by rfl) tBool 4 false [.bool false] 0 (fun _ => ⟨rfl, rfl⟩) (by decide) #[] (by kernel_rfl) (by first | (go_simp; done) | (go_simp; rfl)) ?_; clear S; intro g2 w9 z9 S)
    | ((with_reducible refine gate_dst (N := 3) rfl ?_); refine wpList_smade S (by rfl) tBool 4 false [.bool false] 0 (fun _ => ⟨rfl, rfl⟩) (by decide) #[] (by kernel_rfl) (by first | (go_simp; done) | (go_simp; rfl)) ?_; clear S; intro g3 w9 z9 S)
    | ((with_reducible refine gate_dst (N := 4) rfl ?_); refine wpList_smade S (by rfl) tInt 3 0 [.int .i64 0] 8 (fun _ => ⟨rfl, rfl⟩) (by decide) #[.int .i64 0, .int .i64 0, .int .i64 0, .int .i64 0, .int .i64 0, .int .i64 0, .int .i64 0, .int .i64 0] (by kernel_rfl) (by first | (go_simp; done) | (go_simp; rfl)) ?_; clear S; intro g4 w9 z9 S)
    | ((with_reducible refine gate_box rfl ?_); refine aBx S ?_; clear S; intro g9 w9 z9 S) | ((with_reducible refine gate_alloc rfl ?_); refine aAl S ?_; clear S; intro g9 w9 z9 S) | ((with_reducible refine gate_load rfl ?_); first | refine aLd S ?_ | refine aPt S ?_ | refine aL1 S ?_) | ((with_reducible refine gate_st rfl ?_); (first | refine aS1 S ?_ | refine aSt S ?_ | refine aSp S ?_); clear S; intro w9 S))
  have S' := Sep.shutSt (L := []) (x := 0) (y := 1) (z := 0) (Sep.only4 (a1 := aRow tPk _ _ _ [g1]) (a2 := aRow tBool _ _ _ [g2]) (a3 := aRow tBool _ _ _ [g3]) (a4 := aRow tInt _ _ _ [g4]) S delA delA delA delA) newSt_I
  (refine Sep.ret1 S rfl rfl memA Try.underlying30 rfl ts30 rfl ?_)
  exact S'.retOwn List.mem_cons_self
end Go.Proofs.Ytapdcgjccckjeaa
