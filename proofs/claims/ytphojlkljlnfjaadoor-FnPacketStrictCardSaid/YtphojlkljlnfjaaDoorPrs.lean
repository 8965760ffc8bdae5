/- The program's packetParse. -/
import Derived.Test.YtphojlkljlnfjaaDoorPrc
namespace Go.Proofs.YtphojlkljlnfjaaDoor
set_option maxRecDepth 100000
set_option linter.unusedVariables false
set_option linter.unusedSimpArgs false
open Go.RowKit
theorem tsS : (Tryd.prog.info? 9).map (·.size) = some 1 := by kernel_rfl
instance : TyInf 9 false 1 := ⟨⟨_, Tryd.underlying9, rfl⟩, tsS⟩
set_option maxHeartbeats 3200000 in
theorem packetOf_c (w : World) (v0 v1 v2 v3 v4 v5 v6 : Int) : Calls Tryd.prog 41 #[.agg #[.int .i64 v0, .int .i64 v1, .int .i64 v2, .int .i64 v3, .int .i64 v4, .int .i64 v5, .int .i64 v6]] w (Ret (.agg #[.int .i64 v0, .int .i64 v1, .int .i64 v2, .int .i64 v3, .int .i64 v4, .int .i64 v5, .int .i64 v6]) w) := by
  have S := Sep.start w
  go_enter Tryd.func41, Tryd.ntmps41
  go_wp2_with (first | ((with_reducible refine gate_box rfl ?_); refine aBx S ?_; clear S; intro g9 w9 z9 S) | ((with_reducible refine gate_alloc rfl ?_); refine aAl S ?_; clear S; intro g9 w9 z9 S) | ((with_reducible refine gate_load rfl ?_); first | refine aLd S ?_ | refine aPt S ?_ | refine aL1 S ?_) | ((with_reducible refine gate_st rfl ?_); (first | refine aS1 S ?_ | refine aSt S ?_ | refine aSp S ?_); clear S; intro w9 S))
  (refine Sep.ret1 S rfl rfl memA Tryd.underlying24 rfl ts24 rfl ?_)
  exact ⟨rfl, S.frame⟩
def ErrRet (a : Addr) (w : World) : Ending → World → Prop := fun e w' => e = .returned (.tuple #[.agg #[.int .i64 0, .int .i64 0, .int .i64 0, .int .i64 0, .int .i64 0, .int .i64 0, .int .i64 0], .iface 120 (.pointer (some a))]) ∧ Fr w w'
set_option maxHeartbeats 3200000 in
theorem parse_long (w : World) (s : List UInt8) (hl : 24 < s.length) {a : Addr} (L : Laid a w) : Calls Tryd.prog 28 #[.string ⟨s.toArray⟩] w (ErrRet a w) := by
  have S := Sep.start w
  have LD := Lib.hid L
  have d1 : decide ((24 : Int) < (s.length : Int)) = true := decide_eq_true (by omega)
  clear L
  go_enter Tryd.func28, Tryd.ntmps28
  go_wp2_with (first | ((with_reducible refine gate_box rfl ?_); refine aBx S ?_; clear S; intro g9 w9 z9 S) | ((with_reducible refine gate_alloc rfl ?_); refine aAl S ?_; clear S; intro g9 w9 z9 S) | ((with_reducible refine gate_load rfl ?_); first | refine aLd S ?_ | refine aPt S ?_ | refine aL1 S ?_) | ((with_reducible refine gate_st rfl ?_); (first | refine aS1 S ?_ | refine aSt S ?_ | refine aSp S ?_); clear S; intro w9 S))
  have S0 := S
  refine wp_region_noPanic ?_
  refine wp_region_held_drew (S := Sep _ _ _) (by kernel_rfl) S0.drew (fun _ => ?_)
  replace S := S.drew
  clear S0
  refine tk 0 ?_
  (try simp only [Act.put, List.setIfInBounds_toArray, List.set_cons_zero, List.set_cons_succ])
  refine tk 1 ?_ (hy := by (refine' yields_cell (v := .iface 120 (.pointer (some a))) ?ta 47 _ ?tb ?tc ?td _ ?te ?tf; (case ta => rfl); (case tb => rfl); (case tc => rfl); (case td => exact fun W hW => hW.frame.cell LD.out.e0); (case te => exact Tryd.underlying47); (case tf => rfl)))
  (try simp only [Act.put, List.setIfInBounds_toArray, List.set_cons_zero, List.set_cons_succ])
  refine rdy1 2 (fun K hK => ?_)
  (first | refine rgS1 S ?_ | refine rgSt S ?_ | refine rgSp S ?_); clear S; intro w9 S
  (first | refine hK.out _ _ (S.sub subA) (fun _ => ?_) | (go_wp2_with fail; refine hK.out _ _ (S.sub subA) (fun _ => ?_)))
  clear hK K
  (try simp only [Act.put, List.setIfInBounds_toArray, List.set_cons_zero, List.set_cons_succ])
  refine tk 3 ?_
  (try simp only [Act.put, List.setIfInBounds_toArray, List.set_cons_zero, List.set_cons_succ])
  refine wpAnyH_done (by kernel_rfl) ?_ _
  refine NoPanic.normal ?_
  go_wp2
  (refine Sep.ret1_1 S rfl rfl memA Tryd.underlying24 rfl ts24 rfl rfl ?_)
  exact ⟨rfl, S.frame⟩
set_option maxHeartbeats 3200000 in
theorem parse_len (w : World) (s : List UInt8) (hl : s.length ≤ 24) (hn : (cutA [] s).length ≠ 7) {a : Addr} (L : Laid a w) : Calls Tryd.prog 28 #[.string ⟨s.toArray⟩] w (ErrRet a w) := by
  have S := Sep.start w
  have LD := Lib.hid L
  have d1 : decide ((24 : Int) < (s.length : Int)) = false := decide_eq_false (by omega)
  have d2 : ((((cutA [] s).length : Nat) : Int) == 7) = false := by simp; omega
  clear L hn
  generalize hN : (cutA [] s).length = N at d2
  generalize hX : ((cutA [] s).map fun l => Value.string ⟨l.toArray⟩) = X
  replace hN := Lib.hid hN
  replace hX := Lib.hid hX
  go_enter Tryd.func28, Tryd.ntmps28
  go_wp2_with (first | (go_at_call 39; go_loud ((with_reducible refine (Split_c _ s hl (LD.out.fr S.frame) N X hN.out hX.out).mono ?_); rintro e w9 ⟨g, rfl, b9, z9, f9⟩; replace S := S.new _ b9 (by simp [aBox]) (fun q hq => by rw [List.mem_singleton.1 hq]; exact z9) f9; clear b9 z9 f9)) | ((with_reducible refine gate_box rfl ?_); refine aBx S ?_; clear S; intro g9 w9 z9 S) | ((with_reducible refine gate_alloc rfl ?_); refine aAl S ?_; clear S; intro g9 w9 z9 S) | ((with_reducible refine gate_load rfl ?_); first | refine aLd S ?_ | refine aPt S ?_ | refine aL1 S ?_) | ((with_reducible refine gate_st rfl ?_); (first | refine aS1 S ?_ | refine aSt S ?_ | refine aSp S ?_); clear S; intro w9 S))
  have S0 := S
  refine wp_region_noPanic ?_
  refine wp_region_held_drew (S := Sep _ _ _) (by kernel_rfl) S0.drew (fun _ => ?_)
  replace S := S.drew
  clear S0
  refine tk 0 ?_
  (try simp only [Act.put, List.setIfInBounds_toArray, List.set_cons_zero, List.set_cons_succ])
  refine tk 1 ?_ (hy := by (refine' yields_cell (v := .iface 120 (.pointer (some a))) ?ta 47 _ ?tb ?tc ?td _ ?te ?tf; (case ta => rfl); (case tb => rfl); (case tc => rfl); (case td => exact fun W hW => hW.frame.cell LD.out.e0); (case te => exact Tryd.underlying47); (case tf => rfl)))
  (try simp only [Act.put, List.setIfInBounds_toArray, List.set_cons_zero, List.set_cons_succ])
  refine rdy1 2 (fun K hK => ?_)
  (first | refine rgS1 S ?_ | refine rgSt S ?_ | refine rgSp S ?_); clear S; intro w9 S
  (first | refine hK.out _ _ (S.sub subA) (fun _ => ?_) | (go_wp2_with fail; refine hK.out _ _ (S.sub subA) (fun _ => ?_)))
  clear hK K
  (try simp only [Act.put, List.setIfInBounds_toArray, List.set_cons_zero, List.set_cons_succ])
  refine tk 3 ?_
  (try simp only [Act.put, List.setIfInBounds_toArray, List.set_cons_zero, List.set_cons_succ])
  refine wpAnyH_done (by kernel_rfl) ?_ _
  refine NoPanic.normal ?_
  go_wp2
  (refine Sep.ret1_1 S rfl rfl memA Tryd.underlying24 rfl ts24 rfl rfl ?_)
  exact ⟨rfl, S.frame⟩
set_option maxHeartbeats 6400000 in
theorem parse_bad0 (w : World) (s : List UInt8) (hl : s.length ≤ 24) (a0 a1 a2 a3 a4 a5 a6 : List UInt8) (hw : cutA [] s = [a0, a1, a2, a3, a4, a5, a6])  (hb : ∀ v, Lib.atoiAll a0 ≠ .ok v) {a : Addr} (L : Laid a w) : Calls Tryd.prog 28 #[.string ⟨s.toArray⟩] w (ErrRet a w) := by
  have S := Sep.start w
  have LD := Lib.hid L
  have d1 : decide ((24 : Int) < (s.length : Int)) = false := decide_eq_false (by omega)
  have hN := Lib.hid (show (cutA [] s).length = 7 by rw [hw]; rfl)
  have hX := Lib.hid (show ((cutA [] s).map fun l => Value.string ⟨l.toArray⟩) = [.string ⟨a0.toArray⟩, .string ⟨a1.toArray⟩, .string ⟨a2.toArray⟩, .string ⟨a3.toArray⟩, .string ⟨a4.toArray⟩, .string ⟨a5.toArray⟩, .string ⟨a6.toArray⟩] by rw [hw]; rfl)
  have W : ∀ x ∈ [a0, a1, a2, a3, a4, a5, a6], x.length ≤ 24 := fun x hx => by have := cutA_len s [] x (by rw [hw]; exact hx); simp at this; omega
  have m0 := Lib.hid (W a0 (by simp))
  have m1 := Lib.hid (W a1 (by simp))
  have m2 := Lib.hid (W a2 (by simp))
  have m3 := Lib.hid (W a3 (by simp))
  have m4 := Lib.hid (W a4 (by simp))
  have m5 := Lib.hid (W a5 (by simp))
  have m6 := Lib.hid (W a6 (by simp))
  replace hb := Lib.hid hb
  have w1 : IntKind.i64.wrap 1 = 1 := by decide
  have w2 : IntKind.i64.wrap 2 = 2 := by decide
  have w3 : IntKind.i64.wrap 3 = 3 := by decide
  have w4 : IntKind.i64.wrap 4 = 4 := by decide
  have w5 : IntKind.i64.wrap 5 = 5 := by decide
  have w6 : IntKind.i64.wrap 6 = 6 := by decide
  have w7 : IntKind.i64.wrap 7 = 7 := by decide
  clear L W hw
  go_enter Tryd.func28, Tryd.ntmps28
  go_wp2_with (first | (go_at_call 39; go_loud ((with_reducible refine (Split_c _ s hl (LD.out.fr S.frame) 7 [.string ⟨a0.toArray⟩, .string ⟨a1.toArray⟩, .string ⟨a2.toArray⟩, .string ⟨a3.toArray⟩, .string ⟨a4.toArray⟩, .string ⟨a5.toArray⟩, .string ⟨a6.toArray⟩] hN.out hX.out).mono ?_); rintro e w9 ⟨g, rfl, b9, z9, f9⟩; replace S := S.new _ b9 (by simp [aBox]) (fun q hq => by rw [List.mem_singleton.1 hq]; exact z9) f9; clear b9 z9 f9)) | ((with_reducible refine gate_box rfl ?_); refine aBx S ?_; clear S; intro g9 w9 z9 S) | ((with_reducible refine gate_alloc rfl ?_); refine aAl S ?_; clear S; intro g9 w9 z9 S) | ((with_reducible refine gate_load rfl ?_); first | refine aLd S ?_ | refine aPt S ?_ | refine aL1 S ?_) | ((with_reducible refine gate_st rfl ?_); (first | refine aS1 S ?_ | refine aSt S ?_ | refine aSp S ?_); clear S; intro w9 S))
  refine wp_loop_rounds 8 ?_
  rw [rounds_succ]
  go_wp2_with (first | (go_at_call 40; go_loud ((with_reducible refine (Atoi_bad _ a0 m0.out hb.out (LD.out.fr S.frame)).mono ?_); rintro e w9 ⟨n, N, rfl, f9⟩; replace S := S.fr f9; clear f9)) | ((with_reducible refine gate_box rfl ?_); refine aBx S ?_; clear S; intro g9 w9 z9 S) | ((with_reducible refine gate_alloc rfl ?_); refine aAl S ?_; clear S; intro g9 w9 z9 S) | ((with_reducible refine gate_load rfl ?_); first | refine aLd S ?_ | refine aPt S ?_ | refine aL1 S ?_) | ((with_reducible refine gate_st rfl ?_); (first | refine aS1 S ?_ | refine aSt S ?_ | refine aSp S ?_); clear S; intro w9 S))
  have S0 := S
  refine wp_region_noPanic ?_
  refine wp_region_held_drew (S := Sep _ _ _) (by kernel_rfl) S0.drew (fun _ => ?_)
  replace S := S.drew
  clear S0
  refine tk 0 ?_
  (try simp only [Act.put, List.setIfInBounds_toArray, List.set_cons_zero, List.set_cons_succ])
  refine tk 1 ?_ (hy := by (refine' yields_cell (v := .iface 120 (.pointer (some a))) ?ta 47 _ ?tb ?tc ?td _ ?te ?tf; (case ta => rfl); (case tb => rfl); (case tc => rfl); (case td => exact fun W hW => hW.frame.cell LD.out.e0); (case te => exact Tryd.underlying47); (case tf => rfl)))
  (try simp only [Act.put, List.setIfInBounds_toArray, List.set_cons_zero, List.set_cons_succ])
  refine rdy1 2 (fun K hK => ?_)
  (first | refine rgS1 S ?_ | refine rgSt S ?_ | refine rgSp S ?_); clear S; intro w9 S
  (first | refine hK.out _ _ (S.sub subA) (fun _ => ?_) | (go_wp2_with fail; refine hK.out _ _ (S.sub subA) (fun _ => ?_)))
  clear hK K
  (try simp only [Act.put, List.setIfInBounds_toArray, List.set_cons_zero, List.set_cons_succ])
  refine tk 3 ?_
  (try simp only [Act.put, List.setIfInBounds_toArray, List.set_cons_zero, List.set_cons_succ])
  refine wpAnyH_done (by kernel_rfl) ?_ _
  refine NoPanic.normal ?_
  go_wp2
  (refine Sep.ret1_1 S rfl rfl memA Tryd.underlying24 rfl ts24 rfl rfl ?_)
  exact ⟨rfl, S.frame⟩
set_option maxHeartbeats 6400000 in
theorem parse_bad1 (w : World) (s : List UInt8) (hl : s.length ≤ 24) (a0 a1 a2 a3 a4 a5 a6 : List UInt8) (hw : cutA [] s = [a0, a1, a2, a3, a4, a5, a6]) (v0 : Int) (o0 : Lib.atoiAll a0 = .ok v0) (hb : ∀ v, Lib.atoiAll a1 ≠ .ok v) {a : Addr} (L : Laid a w) : Calls Tryd.prog 28 #[.string ⟨s.toArray⟩] w (ErrRet a w) := by
  have S := Sep.start w
  have LD := Lib.hid L
  have d1 : decide ((24 : Int) < (s.length : Int)) = false := decide_eq_false (by omega)
  have hN := Lib.hid (show (cutA [] s).length = 7 by rw [hw]; rfl)
  have hX := Lib.hid (show ((cutA [] s).map fun l => Value.string ⟨l.toArray⟩) = [.string ⟨a0.toArray⟩, .string ⟨a1.toArray⟩, .string ⟨a2.toArray⟩, .string ⟨a3.toArray⟩, .string ⟨a4.toArray⟩, .string ⟨a5.toArray⟩, .string ⟨a6.toArray⟩] by rw [hw]; rfl)
  have W : ∀ x ∈ [a0, a1, a2, a3, a4, a5, a6], x.length ≤ 24 := fun x hx => by have := cutA_len s [] x (by rw [hw]; exact hx); simp at this; omega
  have m0 := Lib.hid (W a0 (by simp))
  have m1 := Lib.hid (W a1 (by simp))
  have m2 := Lib.hid (W a2 (by simp))
  have m3 := Lib.hid (W a3 (by simp))
  have m4 := Lib.hid (W a4 (by simp))
  have m5 := Lib.hid (W a5 (by simp))
  have m6 := Lib.hid (W a6 (by simp))
  replace o0 := Lib.hid o0
  replace hb := Lib.hid hb
  have w1 : IntKind.i64.wrap 1 = 1 := by decide
  have w2 : IntKind.i64.wrap 2 = 2 := by decide
  have w3 : IntKind.i64.wrap 3 = 3 := by decide
  have w4 : IntKind.i64.wrap 4 = 4 := by decide
  have w5 : IntKind.i64.wrap 5 = 5 := by decide
  have w6 : IntKind.i64.wrap 6 = 6 := by decide
  have w7 : IntKind.i64.wrap 7 = 7 := by decide
  clear L W hw
  go_enter Tryd.func28, Tryd.ntmps28
  go_wp2_with (first | (go_at_call 39; go_loud ((with_reducible refine (Split_c _ s hl (LD.out.fr S.frame) 7 [.string ⟨a0.toArray⟩, .string ⟨a1.toArray⟩, .string ⟨a2.toArray⟩, .string ⟨a3.toArray⟩, .string ⟨a4.toArray⟩, .string ⟨a5.toArray⟩, .string ⟨a6.toArray⟩] hN.out hX.out).mono ?_); rintro e w9 ⟨g, rfl, b9, z9, f9⟩; replace S := S.new _ b9 (by simp [aBox]) (fun q hq => by rw [List.mem_singleton.1 hq]; exact z9) f9; clear b9 z9 f9)) | ((with_reducible refine gate_box rfl ?_); refine aBx S ?_; clear S; intro g9 w9 z9 S) | ((with_reducible refine gate_alloc rfl ?_); refine aAl S ?_; clear S; intro g9 w9 z9 S) | ((with_reducible refine gate_load rfl ?_); first | refine aLd S ?_ | refine aPt S ?_ | refine aL1 S ?_) | ((with_reducible refine gate_st rfl ?_); (first | refine aS1 S ?_ | refine aSt S ?_ | refine aSp S ?_); clear S; intro w9 S))
  refine wp_loop_rounds 8 ?_
  rw [rounds_succ]
  go_wp2_with (first | (go_at_call 40; go_loud ((with_reducible refine (Atoi_ok _ a0 m0.out v0 o0.out).mono ?_); rintro e w9 ⟨rfl, f9⟩; replace S := S.fr f9; clear f9)) | ((with_reducible refine gate_box rfl ?_); refine aBx S ?_; clear S; intro g9 w9 z9 S) | ((with_reducible refine gate_alloc rfl ?_); refine aAl S ?_; clear S; intro g9 w9 z9 S) | ((with_reducible refine gate_load rfl ?_); first | refine aLd S ?_ | refine aPt S ?_ | refine aL1 S ?_) | ((with_reducible refine gate_st rfl ?_); (first | refine aS1 S ?_ | refine aSt S ?_ | refine aSp S ?_); clear S; intro w9 S))
  rw [rounds_succ]
  go_wp2_with (first | (go_at_call 40; go_loud ((with_reducible refine (Atoi_bad _ a1 m1.out hb.out (LD.out.fr S.frame)).mono ?_); rintro e w9 ⟨n, N, rfl, f9⟩; replace S := S.fr f9; clear f9)) | ((with_reducible refine gate_box rfl ?_); refine aBx S ?_; clear S; intro g9 w9 z9 S) | ((with_reducible refine gate_alloc rfl ?_); refine aAl S ?_; clear S; intro g9 w9 z9 S) | ((with_reducible refine gate_load rfl ?_); first | refine aLd S ?_ | refine aPt S ?_ | refine aL1 S ?_) | ((with_reducible refine gate_st rfl ?_); (first | refine aS1 S ?_ | refine aSt S ?_ | refine aSp S ?_); clear S; intro w9 S))
  have S0 := S
  refine wp_region_noPanic ?_
  refine wp_region_held_drew (S := Sep _ _ _) (by kernel_rfl) S0.drew (fun _ => ?_)
  replace S := S.drew
  clear S0
  refine tk 0 ?_
  (try simp only [Act.put, List.setIfInBounds_toArray, List.set_cons_zero, List.set_cons_succ])
  refine tk 1 ?_ (hy := by (refine' yields_cell (v := .iface 120 (.pointer (some a))) ?ta 47 _ ?tb ?tc ?td _ ?te ?tf; (case ta => rfl); (case tb => rfl); (case tc => rfl); (case td => exact fun W hW => hW.frame.cell LD.out.e0); (case te => exact Tryd.underlying47); (case tf => rfl)))
  (try simp only [Act.put, List.setIfInBounds_toArray, List.set_cons_zero, List.set_cons_succ])
  refine rdy1 2 (fun K hK => ?_)
  (first | refine rgS1 S ?_ | refine rgSt S ?_ | refine rgSp S ?_); clear S; intro w9 S
  (first | refine hK.out _ _ (S.sub subA) (fun _ => ?_) | (go_wp2_with fail; refine hK.out _ _ (S.sub subA) (fun _ => ?_)))
  clear hK K
  (try simp only [Act.put, List.setIfInBounds_toArray, List.set_cons_zero, List.set_cons_succ])
  refine tk 3 ?_
  (try simp only [Act.put, List.setIfInBounds_toArray, List.set_cons_zero, List.set_cons_succ])
  refine wpAnyH_done (by kernel_rfl) ?_ _
  refine NoPanic.normal ?_
  go_wp2
  (refine Sep.ret1_1 S rfl rfl memA Tryd.underlying24 rfl ts24 rfl rfl ?_)
  exact ⟨rfl, S.frame⟩
set_option maxHeartbeats 6400000 in
theorem parse_bad2 (w : World) (s : List UInt8) (hl : s.length ≤ 24) (a0 a1 a2 a3 a4 a5 a6 : List UInt8) (hw : cutA [] s = [a0, a1, a2, a3, a4, a5, a6]) (v0 : Int) (o0 : Lib.atoiAll a0 = .ok v0) (v1 : Int) (o1 : Lib.atoiAll a1 = .ok v1) (hb : ∀ v, Lib.atoiAll a2 ≠ .ok v) {a : Addr} (L : Laid a w) : Calls Tryd.prog 28 #[.string ⟨s.toArray⟩] w (ErrRet a w) := by
  have S := Sep.start w
  have LD := Lib.hid L
  have d1 : decide ((24 : Int) < (s.length : Int)) = false := decide_eq_false (by omega)
  have hN := Lib.hid (show (cutA [] s).length = 7 by rw [hw]; rfl)
  have hX := Lib.hid (show ((cutA [] s).map fun l => Value.string ⟨l.toArray⟩) = [.string ⟨a0.toArray⟩, .string ⟨a1.toArray⟩, .string ⟨a2.toArray⟩, .string ⟨a3.toArray⟩, .string ⟨a4.toArray⟩, .string ⟨a5.toArray⟩, .string ⟨a6.toArray⟩] by rw [hw]; rfl)
  have W : ∀ x ∈ [a0, a1, a2, a3, a4, a5, a6], x.length ≤ 24 := fun x hx => by have := cutA_len s [] x (by rw [hw]; exact hx); simp at this; omega
  have m0 := Lib.hid (W a0 (by simp))
  have m1 := Lib.hid (W a1 (by simp))
  have m2 := Lib.hid (W a2 (by simp))
  have m3 := Lib.hid (W a3 (by simp))
  have m4 := Lib.hid (W a4 (by simp))
  have m5 := Lib.hid (W a5 (by simp))
  have m6 := Lib.hid (W a6 (by simp))
  replace o0 := Lib.hid o0
  replace o1 := Lib.hid o1
  replace hb := Lib.hid hb
  have w1 : IntKind.i64.wrap 1 = 1 := by decide
  have w2 : IntKind.i64.wrap 2 = 2 := by decide
  have w3 : IntKind.i64.wrap 3 = 3 := by decide
  have w4 : IntKind.i64.wrap 4 = 4 := by decide
  have w5 : IntKind.i64.wrap 5 = 5 := by decide
  have w6 : IntKind.i64.wrap 6 = 6 := by decide
  have w7 : IntKind.i64.wrap 7 = 7 := by decide
  clear L W hw
  go_enter Tryd.func28, Tryd.ntmps28
  go_wp2_with (first | (go_at_call 39; go_loud ((with_reducible refine (Split_c _ s hl (LD.out.fr S.frame) 7 [.string ⟨a0.toArray⟩, .string ⟨a1.toArray⟩, .string ⟨a2.toArray⟩, .string ⟨a3.toArray⟩, .string ⟨a4.toArray⟩, .string ⟨a5.toArray⟩, .string ⟨a6.toArray⟩] hN.out hX.out).mono ?_); rintro e w9 ⟨g, rfl, b9, z9, f9⟩; replace S := S.new _ b9 (by simp [aBox]) (fun q hq => by rw [List.mem_singleton.1 hq]; exact z9) f9; clear b9 z9 f9)) | ((with_reducible refine gate_box rfl ?_); refine aBx S ?_; clear S; intro g9 w9 z9 S) | ((with_reducible refine gate_alloc rfl ?_); refine aAl S ?_; clear S; intro g9 w9 z9 S) | ((with_reducible refine gate_load rfl ?_); first | refine aLd S ?_ | refine aPt S ?_ | refine aL1 S ?_) | ((with_reducible refine gate_st rfl ?_); (first | refine aS1 S ?_ | refine aSt S ?_ | refine aSp S ?_); clear S; intro w9 S))
  refine wp_loop_rounds 8 ?_
  rw [rounds_succ]
  go_wp2_with (first | (go_at_call 40; go_loud ((with_reducible refine (Atoi_ok _ a0 m0.out v0 o0.out).mono ?_); rintro e w9 ⟨rfl, f9⟩; replace S := S.fr f9; clear f9)) | ((with_reducible refine gate_box rfl ?_); refine aBx S ?_; clear S; intro g9 w9 z9 S) | ((with_reducible refine gate_alloc rfl ?_); refine aAl S ?_; clear S; intro g9 w9 z9 S) | ((with_reducible refine gate_load rfl ?_); first | refine aLd S ?_ | refine aPt S ?_ | refine aL1 S ?_) | ((with_reducible refine gate_st rfl ?_); (first | refine aS1 S ?_ | refine aSt S ?_ | refine aSp S ?_); clear S; intro w9 S))
  rw [rounds_succ]
  go_wp2_with (first | (go_at_call 40; go_loud ((with_reducible refine (Atoi_ok _ a1 m1.out v1 o1.out).mono ?_); rintro e w9 ⟨rfl, f9⟩; replace S := S.fr f9; clear f9)) | ((with_reducible refine gate_box rfl ?_); refine aBx S ?_; clear S; intro g9 w9 z9 S) | ((with_reducible refine gate_alloc rfl ?_); refine aAl S ?_; clear S; intro g9 w9 z9 S) | ((with_reducible refine gate_load rfl ?_); first | refine aLd S ?_ | refine aPt S ?_ | refine aL1 S ?_) | ((with_reducible refine gate_st rfl ?_); (first | refine aS1 S ?_ | refine aSt S ?_ | refine aSp S ?_); clear S; intro w9 S))
  rw [rounds_succ]
  go_wp2_with (first | (go_at_call 40; go_loud ((with_reducible refine (Atoi_bad _ a2 m2.out hb.out (LD.out.fr S.frame)).mono ?_); rintro e w9 ⟨n, N, rfl, f9⟩; replace S := S.fr f9; clear f9)) | ((with_reducible refine gate_box rfl ?_); refine aBx S ?_; clear S; intro g9 w9 z9 S) | ((with_reducible refine gate_alloc rfl ?_); refine aAl S ?_; clear S; intro g9 w9 z9 S) | ((with_reducible refine gate_load rfl ?_); first | refine aLd S ?_ | refine aPt S ?_ | refine aL1 S ?_) | ((with_reducible refine gate_st rfl ?_); (first | refine aS1 S ?_ | refine aSt S ?_ | refine aSp S ?_); clear S; intro w9 S))
  have S0 := S
  refine wp_region_noPanic ?_
  refine wp_region_held_drew (S := Sep _ _ _) (by kernel_rfl) S0.drew (fun _ => ?_)
  replace S := S.drew
  clear S0
  refine tk 0 ?_
  (try simp only [Act.put, List.setIfInBounds_toArray, List.set_cons_zero, List.set_cons_succ])
  refine tk 1 ?_ (hy := by (refine' yields_cell (v := .iface 120 (.pointer (some a))) ?ta 47 _ ?tb ?tc ?td _ ?te ?tf; (case ta => rfl); (case tb => rfl); (case tc => rfl); (case td => exact fun W hW => hW.frame.cell LD.out.e0); (case te => exact Tryd.underlying47); (case tf => rfl)))
  (try simp only [Act.put, List.setIfInBounds_toArray, List.set_cons_zero, List.set_cons_succ])
  refine rdy1 2 (fun K hK => ?_)
  (first | refine rgS1 S ?_ | refine rgSt S ?_ | refine rgSp S ?_); clear S; intro w9 S
  (first | refine hK.out _ _ (S.sub subA) (fun _ => ?_) | (go_wp2_with fail; refine hK.out _ _ (S.sub subA) (fun _ => ?_)))
  clear hK K
  (try simp only [Act.put, List.setIfInBounds_toArray, List.set_cons_zero, List.set_cons_succ])
  refine tk 3 ?_
  (try simp only [Act.put, List.setIfInBounds_toArray, List.set_cons_zero, List.set_cons_succ])
  refine wpAnyH_done (by kernel_rfl) ?_ _
  refine NoPanic.normal ?_
  go_wp2
  (refine Sep.ret1_1 S rfl rfl memA Tryd.underlying24 rfl ts24 rfl rfl ?_)
  exact ⟨rfl, S.frame⟩
set_option maxHeartbeats 6400000 in
theorem parse_bad3 (w : World) (s : List UInt8) (hl : s.length ≤ 24) (a0 a1 a2 a3 a4 a5 a6 : List UInt8) (hw : cutA [] s = [a0, a1, a2, a3, a4, a5, a6]) (v0 : Int) (o0 : Lib.atoiAll a0 = .ok v0) (v1 : Int) (o1 : Lib.atoiAll a1 = .ok v1) (v2 : Int) (o2 : Lib.atoiAll a2 = .ok v2) (hb : ∀ v, Lib.atoiAll a3 ≠ .ok v) {a : Addr} (L : Laid a w) : Calls Tryd.prog 28 #[.string ⟨s.toArray⟩] w (ErrRet a w) := by
  have S := Sep.start w
  have LD := Lib.hid L
  have d1 : decide ((24 : Int) < (s.length : Int)) = false := decide_eq_false (by omega)
  have hN := Lib.hid (show (cutA [] s).length = 7 by rw [hw]; rfl)
  have hX := Lib.hid (show ((cutA [] s).map fun l => Value.string ⟨l.toArray⟩) = [.string ⟨a0.toArray⟩, .string ⟨a1.toArray⟩, .string ⟨a2.toArray⟩, .string ⟨a3.toArray⟩, .string ⟨a4.toArray⟩, .string ⟨a5.toArray⟩, .string ⟨a6.toArray⟩] by rw [hw]; rfl)
  have W : ∀ x ∈ [a0, a1, a2, a3, a4, a5, a6], x.length ≤ 24 := fun x hx => by have := cutA_len s [] x (by rw [hw]; exact hx); simp at this; omega
  have m0 := Lib.hid (W a0 (by simp))
  have m1 := Lib.hid (W a1 (by simp))
  have m2 := Lib.hid (W a2 (by simp))
  have m3 := Lib.hid (W a3 (by simp))
  have m4 := Lib.hid (W a4 (by simp))
  have m5 := Lib.hid (W a5 (by simp))
  have m6 := Lib.hid (W a6 (by simp))
  replace o0 := Lib.hid o0
  replace o1 := Lib.hid o1
  replace o2 := Lib.hid o2
  replace hb := Lib.hid hb
  have w1 : IntKind.i64.wrap 1 = 1 := by decide
  have w2 : IntKind.i64.wrap 2 = 2 := by decide
  have w3 : IntKind.i64.wrap 3 = 3 := by decide
  have w4 : IntKind.i64.wrap 4 = 4 := by decide
  have w5 : IntKind.i64.wrap 5 = 5 := by decide
  have w6 : IntKind.i64.wrap 6 = 6 := by decide
  have w7 : IntKind.i64.wrap 7 = 7 := by decide
  clear L W hw
  go_enter Tryd.func28, Tryd.ntmps28
  go_wp2_with (first | (go_at_call 39; go_loud ((with_reducible refine (Split_c _ s hl (LD.out.fr S.frame) 7 [.string ⟨a0.toArray⟩, .string ⟨a1.toArray⟩, .string ⟨a2.toArray⟩, .string ⟨a3.toArray⟩, .string ⟨a4.toArray⟩, .string ⟨a5.toArray⟩, .string ⟨a6.toArray⟩] hN.out hX.out).mono ?_); rintro e w9 ⟨g, rfl, b9, z9, f9⟩; replace S := S.new _ b9 (by simp [aBox]) (fun q hq => by rw [List.mem_singleton.1 hq]; exact z9) f9; clear b9 z9 f9)) | ((with_reducible refine gate_box rfl ?_); refine aBx S ?_; clear S; intro g9 w9 z9 S) | ((with_reducible refine gate_alloc rfl ?_); refine aAl S ?_; clear S; intro g9 w9 z9 S) | ((with_reducible refine gate_load rfl ?_); first | refine aLd S ?_ | refine aPt S ?_ | refine aL1 S ?_) | ((with_reducible refine gate_st rfl ?_); (first | refine aS1 S ?_ | refine aSt S ?_ | refine aSp S ?_); clear S; intro w9 S))
  refine wp_loop_rounds 8 ?_
  rw [rounds_succ]
  go_wp2_with (first | (go_at_call 40; go_loud ((with_reducible refine (Atoi_ok _ a0 m0.out v0 o0.out).mono ?_); rintro e w9 ⟨rfl, f9⟩; replace S := S.fr f9; clear f9)) | ((with_reducible refine gate_box rfl ?_); refine aBx S ?_; clear S; intro g9 w9 z9 S) | ((with_reducible refine gate_alloc rfl ?_); refine aAl S ?_; clear S; intro g9 w9 z9 S) | ((with_reducible refine gate_load rfl ?_); first | refine aLd S ?_ | refine aPt S ?_ | refine aL1 S ?_) | ((with_reducible refine gate_st rfl ?_); (first | refine aS1 S ?_ | refine aSt S ?_ | refine aSp S ?_); clear S; intro w9 S))
  rw [rounds_succ]
  go_wp2_with (first | (go_at_call 40; go_loud ((with_reducible refine (Atoi_ok _ a1 m1.out v1 o1.out).mono ?_); rintro e w9 ⟨rfl, f9⟩; replace S := S.fr f9; clear f9)) | ((with_reducible refine gate_box rfl ?_); refine aBx S ?_; clear S; intro g9 w9 z9 S) | ((with_reducible refine gate_alloc rfl ?_); refine aAl S ?_; clear S; intro g9 w9 z9 S) | ((with_reducible refine gate_load rfl ?_); first | refine aLd S ?_ | refine aPt S ?_ | refine aL1 S ?_) | ((with_reducible refine gate_st rfl ?_); (first | refine aS1 S ?_ | refine aSt S ?_ | refine aSp S ?_); clear S; intro w9 S))
  rw [rounds_succ]
  go_wp2_with (first | (go_at_call 40; go_loud ((with_reducible refine (Atoi_ok _ a2 m2.out v2 o2.out).mono ?_); rintro e w9 ⟨rfl, f9⟩; replace S := S.fr f9; clear f9)) | ((with_reducible refine gate_box rfl ?_); refine aBx S ?_; clear S; intro g9 w9 z9 S) | ((with_reducible refine gate_alloc rfl ?_); refine aAl S ?_; clear S; intro g9 w9 z9 S) | ((with_reducible refine gate_load rfl ?_); first | refine aLd S ?_ | refine aPt S ?_ | refine aL1 S ?_) | ((with_reducible refine gate_st rfl ?_); (first | refine aS1 S ?_ | refine aSt S ?_ | refine aSp S ?_); clear S; intro w9 S))
  rw [rounds_succ]
  go_wp2_with (first | (go_at_call 40; go_loud ((with_reducible refine (Atoi_bad _ a3 m3.out hb.out (LD.out.fr S.frame)).mono ?_); rintro e w9 ⟨n, N, rfl, f9⟩; replace S := S.fr f9; clear f9)) | ((with_reducible refine gate_box rfl ?_); refine aBx S ?_; clear S; intro g9 w9 z9 S) | ((with_reducible refine gate_alloc rfl ?_); refine aAl S ?_; clear S; intro g9 w9 z9 S) | ((with_reducible refine gate_load rfl ?_); first | refine aLd S ?_ | refine aPt S ?_ | refine aL1 S ?_) | ((with_reducible refine gate_st rfl ?_); (first | refine aS1 S ?_ | refine aSt S ?_ | refine aSp S ?_); clear S; intro w9 S))
  have S0 := S
  refine wp_region_noPanic ?_
  refine wp_region_held_drew (S := Sep _ _ _) (by kernel_rfl) S0.drew (fun _ => ?_)
  replace S := S.drew
  clear S0
  refine tk 0 ?_
  (try simp only [Act.put, List.setIfInBounds_toArray, List.set_cons_zero, List.set_cons_succ])
  refine tk 1 ?_ (hy := by (refine' yields_cell (v := .iface 120 (.pointer (some a))) ?ta 47 _ ?tb ?tc ?td _ ?te ?tf; (case ta => rfl); (case tb => rfl); (case tc => rfl); (case td => exact fun W hW => hW.frame.cell LD.out.e0); (case te => exact Tryd.underlying47); (case tf => rfl)))
  (try simp only [Act.put, List.setIfInBounds_toArray, List.set_cons_zero, List.set_cons_succ])
  refine rdy1 2 (fun K hK => ?_)
  (first | refine rgS1 S ?_ | refine rgSt S ?_ | refine rgSp S ?_); clear S; intro w9 S
  (first | refine hK.out _ _ (S.sub subA) (fun _ => ?_) | (go_wp2_with fail; refine hK.out _ _ (S.sub subA) (fun _ => ?_)))
  clear hK K
  (try simp only [Act.put, List.setIfInBounds_toArray, List.set_cons_zero, List.set_cons_succ])
  refine tk 3 ?_
  (try simp only [Act.put, List.setIfInBounds_toArray, List.set_cons_zero, List.set_cons_succ])
  refine wpAnyH_done (by kernel_rfl) ?_ _
  refine NoPanic.normal ?_
  go_wp2
  (refine Sep.ret1_1 S rfl rfl memA Tryd.underlying24 rfl ts24 rfl rfl ?_)
  exact ⟨rfl, S.frame⟩
set_option maxHeartbeats 6400000 in
theorem parse_bad4 (w : World) (s : List UInt8) (hl : s.length ≤ 24) (a0 a1 a2 a3 a4 a5 a6 : List UInt8) (hw : cutA [] s = [a0, a1, a2, a3, a4, a5, a6]) (v0 : Int) (o0 : Lib.atoiAll a0 = .ok v0) (v1 : Int) (o1 : Lib.atoiAll a1 = .ok v1) (v2 : Int) (o2 : Lib.atoiAll a2 = .ok v2) (v3 : Int) (o3 : Lib.atoiAll a3 = .ok v3) (hb : ∀ v, Lib.atoiAll a4 ≠ .ok v) {a : Addr} (L : Laid a w) : Calls Tryd.prog 28 #[.string ⟨s.toArray⟩] w (ErrRet a w) := by
  have S := Sep.start w
  have LD := Lib.hid L
  have d1 : decide ((24 : Int) < (s.length : Int)) = false := decide_eq_false (by omega)
  have hN := Lib.hid (show (cutA [] s).length = 7 by rw [hw]; rfl)
  have hX := Lib.hid (show ((cutA [] s).map fun l => Value.string ⟨l.toArray⟩) = [.string ⟨a0.toArray⟩, .string ⟨a1.toArray⟩, .string ⟨a2.toArray⟩, .string ⟨a3.toArray⟩, .string ⟨a4.toArray⟩, .string ⟨a5.toArray⟩, .string ⟨a6.toArray⟩] by rw [hw]; rfl)
  have W : ∀ x ∈ [a0, a1, a2, a3, a4, a5, a6], x.length ≤ 24 := fun x hx => by have := cutA_len s [] x (by rw [hw]; exact hx); simp at this; omega
  have m0 := Lib.hid (W a0 (by simp))
  have m1 := Lib.hid (W a1 (by simp))
  have m2 := Lib.hid (W a2 (by simp))
  have m3 := Lib.hid (W a3 (by simp))
  have m4 := Lib.hid (W a4 (by simp))
  have m5 := Lib.hid (W a5 (by simp))
  have m6 := Lib.hid (W a6 (by simp))
  replace o0 := Lib.hid o0
  replace o1 := Lib.hid o1
  replace o2 := Lib.hid o2
  replace o3 := Lib.hid o3
  replace hb := Lib.hid hb
  have w1 : IntKind.i64.wrap 1 = 1 := by decide
  have w2 : IntKind.i64.wrap 2 = 2 := by decide
  have w3 : IntKind.i64.wrap 3 = 3 := by decide
  have w4 : IntKind.i64.wrap 4 = 4 := by decide
  have w5 : IntKind.i64.wrap 5 = 5 := by decide
  have w6 : IntKind.i64.wrap 6 = 6 := by decide
  have w7 : IntKind.i64.wrap 7 = 7 := by decide
  clear L W hw
  go_enter Tryd.func28, Tryd.ntmps28
  go_wp2_with (first | (go_at_call 39; go_loud ((with_reducible refine (Split_c _ s hl (LD.out.fr S.frame) 7 [.string ⟨a0.toArray⟩, .string ⟨a1.toArray⟩, .string ⟨a2.toArray⟩, .string ⟨a3.toArray⟩, .string ⟨a4.toArray⟩, .string ⟨a5.toArray⟩, .string ⟨a6.toArray⟩] hN.out hX.out).mono ?_); rintro e w9 ⟨g, rfl, b9, z9, f9⟩; replace S := S.new _ b9 (by simp [aBox]) (fun q hq => by rw [List.mem_singleton.1 hq]; exact z9) f9; clear b9 z9 f9)) | ((with_reducible refine gate_box rfl ?_); refine aBx S ?_; clear S; intro g9 w9 z9 S) | ((with_reducible refine gate_alloc rfl ?_); refine aAl S ?_; clear S; intro g9 w9 z9 S) | ((with_reducible refine gate_load rfl ?_); first | refine aLd S ?_ | refine aPt S ?_ | refine aL1 S ?_) | ((with_reducible refine gate_st rfl ?_); (first | refine aS1 S ?_ | refine aSt S ?_ | refine aSp S ?_); clear S; intro w9 S))
  refine wp_loop_rounds 8 ?_
  rw [rounds_succ]
  go_wp2_with (first | (go_at_call 40; go_loud ((with_reducible refine (Atoi_ok _ a0 m0.out v0 o0.out).mono ?_); rintro e w9 ⟨rfl, f9⟩; replace S := S.fr f9; clear f9)) | ((with_reducible refine gate_box rfl ?_); refine aBx S ?_; clear S; intro g9 w9 z9 S) | ((with_reducible refine gate_alloc rfl ?_); refine aAl S ?_; clear S; intro g9 w9 z9 S) | ((with_reducible refine gate_load rfl ?_); first | refine aLd S ?_ | refine aPt S ?_ | refine aL1 S ?_) | ((with_reducible refine gate_st rfl ?_); (first | refine aS1 S ?_ | refine aSt S ?_ | refine aSp S ?_); clear S; intro w9 S))
  rw [rounds_succ]
  go_wp2_with (first | (go_at_call 40; go_loud ((with_reducible refine (Atoi_ok _ a1 m1.out v1 o1.out).mono ?_); rintro e w9 ⟨rfl, f9⟩; replace S := S.fr f9; clear f9)) | ((with_reducible refine gate_box rfl ?_); refine aBx S ?_; clear S; intro g9 w9 z9 S) | ((with_reducible refine gate_alloc rfl ?_); refine aAl S ?_; clear S; intro g9 w9 z9 S) | ((with_reducible refine gate_load rfl ?_); first | refine aLd S ?_ | refine aPt S ?_ | refine aL1 S ?_) | ((with_reducible refine gate_st rfl ?_); (first | refine aS1 S ?_ | refine aSt S ?_ | refine aSp S ?_); clear S; intro w9 S))
  rw [rounds_succ]
  go_wp2_with (first | (go_at_call 40; go_loud ((with_reducible refine (Atoi_ok _ a2 m2.out v2 o2.out).mono ?_); rintro e w9 ⟨rfl, f9⟩; replace S := S.fr f9; clear f9)) | ((with_reducible refine gate_box rfl ?_); refine aBx S ?_; clear S; intro g9 w9 z9 S) | ((with_reducible refine gate_alloc rfl ?_); refine aAl S ?_; clear S; intro g9 w9 z9 S) | ((with_reducible refine gate_load rfl ?_); first | refine aLd S ?_ | refine aPt S ?_ | refine aL1 S ?_) | ((with_reducible refine gate_st rfl ?_); (first | refine aS1 S ?_ | refine aSt S ?_ | refine aSp S ?_); clear S; intro w9 S))
  rw [rounds_succ]
  go_wp2_with (first | (go_at_call 40; go_loud ((with_reducible refine (Atoi_ok _ a3 m3.out v3 o3.out).mono ?_); rintro e w9 ⟨rfl, f9⟩; replace S := S.fr f9; clear f9)) | ((with_reducible refine gate_box rfl ?_); refine aBx S ?_; clear S; intro g9 w9 z9 S) | ((with_reducible refine gate_alloc rfl ?_); refine aAl S ?_; clear S; intro g9 w9 z9 S) | ((with_reducible refine gate_load rfl ?_); first | refine aLd S ?_ | refine aPt S ?_ | refine aL1 S ?_) | ((with_reducible refine gate_st rfl ?_); (first | refine aS1 S ?_ | refine aSt S ?_ | refine aSp S ?_); clear S; intro w9 S))
  rw [rounds_succ]
  go_wp2_with (first | (go_at_call 40; go_loud ((with_reducible refine (Atoi_bad _ a4 m4.out hb.out (LD.out.fr S.frame)).mono ?_); rintro e w9 ⟨n, N, rfl, f9⟩; replace S := S.fr f9; clear f9)) | ((with_reducible refine gate_box rfl ?_); refine aBx S ?_; clear S; intro g9 w9 z9 S) | ((with_reducible refine gate_alloc rfl ?_); refine aAl S ?_; clear S; intro g9 w9 z9 S) | ((with_reducible refine gate_load rfl ?_); first | refine aLd S ?_ | refine aPt S ?_ | refine aL1 S ?_) | ((with_reducible refine gate_st rfl ?_); (first | refine aS1 S ?_ | refine aSt S ?_ | refine aSp S ?_); clear S; intro w9 S))
  have S0 := S
  refine wp_region_noPanic ?_
  refine wp_region_held_drew (S := Sep _ _ _) (by kernel_rfl) S0.drew (fun _ => ?_)
  replace S := S.drew
  clear S0
  refine tk 0 ?_
  (try simp only [Act.put, List.setIfInBounds_toArray, List.set_cons_zero, List.set_cons_succ])
  refine tk 1 ?_ (hy := by (refine' yields_cell (v := .iface 120 (.pointer (some a))) ?ta 47 _ ?tb ?tc ?td _ ?te ?tf; (case ta => rfl); (case tb => rfl); (case tc => rfl); (case td => exact fun W hW => hW.frame.cell LD.out.e0); (case te => exact Tryd.underlying47); (case tf => rfl)))
  (try simp only [Act.put, List.setIfInBounds_toArray, List.set_cons_zero, List.set_cons_succ])
  refine rdy1 2 (fun K hK => ?_)
  (first | refine rgS1 S ?_ | refine rgSt S ?_ | refine rgSp S ?_); clear S; intro w9 S
  (first | refine hK.out _ _ (S.sub subA) (fun _ => ?_) | (go_wp2_with fail; refine hK.out _ _ (S.sub subA) (fun _ => ?_)))
  clear hK K
  (try simp only [Act.put, List.setIfInBounds_toArray, List.set_cons_zero, List.set_cons_succ])
  refine tk 3 ?_
  (try simp only [Act.put, List.setIfInBounds_toArray, List.set_cons_zero, List.set_cons_succ])
  refine wpAnyH_done (by kernel_rfl) ?_ _
  refine NoPanic.normal ?_
  go_wp2
  (refine Sep.ret1_1 S rfl rfl memA Tryd.underlying24 rfl ts24 rfl rfl ?_)
  exact ⟨rfl, S.frame⟩
set_option maxHeartbeats 6400000 in
theorem parse_bad5 (w : World) (s : List UInt8) (hl : s.length ≤ 24) (a0 a1 a2 a3 a4 a5 a6 : List UInt8) (hw : cutA [] s = [a0, a1, a2, a3, a4, a5, a6]) (v0 : Int) (o0 : Lib.atoiAll a0 = .ok v0) (v1 : Int) (o1 : Lib.atoiAll a1 = .ok v1) (v2 : Int) (o2 : Lib.atoiAll a2 = .ok v2) (v3 : Int) (o3 : Lib.atoiAll a3 = .ok v3) (v4 : Int) (o4 : Lib.atoiAll a4 = .ok v4) (hb : ∀ v, Lib.atoiAll a5 ≠ .ok v) {a : Addr} (L : Laid a w) : Calls Tryd.prog 28 #[.string ⟨s.toArray⟩] w (ErrRet a w) := by
  have S := Sep.start w
  have LD := Lib.hid L
  have d1 : decide ((24 : Int) < (s.length : Int)) = false := decide_eq_false (by omega)
  have hN := Lib.hid (show (cutA [] s).length = 7 by rw [hw]; rfl)
  have hX := Lib.hid (show ((cutA [] s).map fun l => Value.string ⟨l.toArray⟩) = [.string ⟨a0.toArray⟩, .string ⟨a1.toArray⟩, .string ⟨a2.toArray⟩, .string ⟨a3.toArray⟩, .string ⟨a4.toArray⟩, .string ⟨a5.toArray⟩, .string ⟨a6.toArray⟩] by rw [hw]; rfl)
  have W : ∀ x ∈ [a0, a1, a2, a3, a4, a5, a6], x.length ≤ 24 := fun x hx => by have := cutA_len s [] x (by rw [hw]; exact hx); simp at this; omega
  have m0 := Lib.hid (W a0 (by simp))
  have m1 := Lib.hid (W a1 (by simp))
  have m2 := Lib.hid (W a2 (by simp))
  have m3 := Lib.hid (W a3 (by simp))
  have m4 := Lib.hid (W a4 (by simp))
  have m5 := Lib.hid (W a5 (by simp))
  have m6 := Lib.hid (W a6 (by simp))
  replace o0 := Lib.hid o0
  replace o1 := Lib.hid o1
  replace o2 := Lib.hid o2
  replace o3 := Lib.hid o3
  replace o4 := Lib.hid o4
  replace hb := Lib.hid hb
  have w1 : IntKind.i64.wrap 1 = 1 := by decide
  have w2 : IntKind.i64.wrap 2 = 2 := by decide
  have w3 : IntKind.i64.wrap 3 = 3 := by decide
  have w4 : IntKind.i64.wrap 4 = 4 := by decide
  have w5 : IntKind.i64.wrap 5 = 5 := by decide
  have w6 : IntKind.i64.wrap 6 = 6 := by decide
  have w7 : IntKind.i64.wrap 7 = 7 := by decide
  clear L W hw
  go_enter Tryd.func28, Tryd.ntmps28
  go_wp2_with (first | (go_at_call 39; go_loud ((with_reducible refine (Split_c _ s hl (LD.out.fr S.frame) 7 [.string ⟨a0.toArray⟩, .string ⟨a1.toArray⟩, .string ⟨a2.toArray⟩, .string ⟨a3.toArray⟩, .string ⟨a4.toArray⟩, .string ⟨a5.toArray⟩, .string ⟨a6.toArray⟩] hN.out hX.out).mono ?_); rintro e w9 ⟨g, rfl, b9, z9, f9⟩; replace S := S.new _ b9 (by simp [aBox]) (fun q hq => by rw [List.mem_singleton.1 hq]; exact z9) f9; clear b9 z9 f9)) | ((with_reducible refine gate_box rfl ?_); refine aBx S ?_; clear S; intro g9 w9 z9 S) | ((with_reducible refine gate_alloc rfl ?_); refine aAl S ?_; clear S; intro g9 w9 z9 S) | ((with_reducible refine gate_load rfl ?_); first | refine aLd S ?_ | refine aPt S ?_ | refine aL1 S ?_) | ((with_reducible refine gate_st rfl ?_); (first | refine aS1 S ?_ | refine aSt S ?_ | refine aSp S ?_); clear S; intro w9 S))
  refine wp_loop_rounds 8 ?_
  rw [rounds_succ]
  go_wp2_with (first | (go_at_call 40; go_loud ((with_reducible refine (Atoi_ok _ a0 m0.out v0 o0.out).mono ?_); rintro e w9 ⟨rfl, f9⟩; replace S := S.fr f9; clear f9)) | ((with_reducible refine gate_box rfl ?_); refine aBx S ?_; clear S; intro g9 w9 z9 S) | ((with_reducible refine gate_alloc rfl ?_); refine aAl S ?_; clear S; intro g9 w9 z9 S) | ((with_reducible refine gate_load rfl ?_); first | refine aLd S ?_ | refine aPt S ?_ | refine aL1 S ?_) | ((with_reducible refine gate_st rfl ?_); (first | refine aS1 S ?_ | refine aSt S ?_ | refine aSp S ?_); clear S; intro w9 S))
  rw [rounds_succ]
  go_wp2_with (first | (go_at_call 40; go_loud ((with_reducible refine (Atoi_ok _ a1 m1.out v1 o1.out).mono ?_); rintro e w9 ⟨rfl, f9⟩; replace S := S.fr f9; clear f9)) | ((with_reducible refine gate_box rfl ?_); refine aBx S ?_; clear S; intro g9 w9 z9 S) | ((with_reducible refine gate_alloc rfl ?_); refine aAl S ?_; clear S; intro g9 w9 z9 S) | ((with_reducible refine gate_load rfl ?_); first | refine aLd S ?_ | refine aPt S ?_ | refine aL1 S ?_) | ((with_reducible refine gate_st rfl ?_); (first | refine aS1 S ?_ | refine aSt S ?_ | refine aSp S ?_); clear S; intro w9 S))
  rw [rounds_succ]
  go_wp2_with (first | (go_at_call 40; go_loud ((with_reducible refine (Atoi_ok _ a2 m2.out v2 o2.out).mono ?_); rintro e w9 ⟨rfl, f9⟩; replace S := S.fr f9; clear f9)) | ((with_reducible refine gate_box rfl ?_); refine aBx S ?_; clear S; intro g9 w9 z9 S) | ((with_reducible refine gate_alloc rfl ?_); refine aAl S ?_; clear S; intro g9 w9 z9 S) | ((with_reducible refine gate_load rfl ?_); first | refine aLd S ?_ | refine aPt S ?_ | refine aL1 S ?_) | ((with_reducible refine gate_st rfl ?_); (first | refine aS1 S ?_ | refine aSt S ?_ | refine aSp S ?_); clear S; intro w9 S))
  rw [rounds_succ]
  go_wp2_with (first | (go_at_call 40; go_loud ((with_reducible refine (Atoi_ok _ a3 m3.out v3 o3.out).mono ?_); rintro e w9 ⟨rfl, f9⟩; replace S := S.fr f9; clear f9)) | ((with_reducible refine gate_box rfl ?_); refine aBx S ?_; clear S; intro g9 w9 z9 S) | ((with_reducible refine gate_alloc rfl ?_); refine aAl S ?_; clear S; intro g9 w9 z9 S) | ((with_reducible refine gate_load rfl ?_); first | refine aLd S ?_ | refine aPt S ?_ | refine aL1 S ?_) | ((with_reducible refine gate_st rfl ?_); (first | refine aS1 S ?_ | refine aSt S ?_ | refine aSp S ?_); clear S; intro w9 S))
  rw [rounds_succ]
  go_wp2_with (first | (go_at_call 40; go_loud ((with_reducible refine (Atoi_ok _ a4 m4.out v4 o4.out).mono ?_); rintro e w9 ⟨rfl, f9⟩; replace S := S.fr f9; clear f9)) | ((with_reducible refine gate_box rfl ?_); refine aBx S ?_; clear S; intro g9 w9 z9 S) | ((with_reducible refine gate_alloc rfl ?_); refine aAl S ?_; clear S; intro g9 w9 z9 S) | ((with_reducible refine gate_load rfl ?_); first | refine aLd S ?_ | refine aPt S ?_ | refine aL1 S ?_) | ((with_reducible refine gate_st rfl ?_); (first | refine aS1 S ?_ | refine aSt S ?_ | refine aSp S ?_); clear S; intro w9 S))
  rw [rounds_succ]
  go_wp2_with (first | (go_at_call 40; go_loud ((with_reducible refine (Atoi_bad _ a5 m5.out hb.out (LD.out.fr S.frame)).mono ?_); rintro e w9 ⟨n, N, rfl, f9⟩; replace S := S.fr f9; clear f9)) | ((with_reducible refine gate_box rfl ?_); refine aBx S ?_; clear S; intro g9 w9 z9 S) | ((with_reducible refine gate_alloc rfl ?_); refine aAl S ?_; clear S; intro g9 w9 z9 S) | ((with_reducible refine gate_load rfl ?_); first | refine aLd S ?_ | refine aPt S ?_ | refine aL1 S ?_) | ((with_reducible refine gate_st rfl ?_); (first | refine aS1 S ?_ | refine aSt S ?_ | refine aSp S ?_); clear S; intro w9 S))
  have S0 := S
  refine wp_region_noPanic ?_
  refine wp_region_held_drew (S := Sep _ _ _) (by kernel_rfl) S0.drew (fun _ => ?_)
  replace S := S.drew
  clear S0
  refine tk 0 ?_
  (try simp only [Act.put, List.setIfInBounds_toArray, List.set_cons_zero, List.set_cons_succ])
  refine tk 1 ?_ (hy := by (refine' yields_cell (v := .iface 120 (.pointer (some a))) ?ta 47 _ ?tb ?tc ?td _ ?te ?tf; (case ta => rfl); (case tb => rfl); (case tc => rfl); (case td => exact fun W hW => hW.frame.cell LD.out.e0); (case te => exact Tryd.underlying47); (case tf => rfl)))
  (try simp only [Act.put, List.setIfInBounds_toArray, List.set_cons_zero, List.set_cons_succ])
  refine rdy1 2 (fun K hK => ?_)
  (first | refine rgS1 S ?_ | refine rgSt S ?_ | refine rgSp S ?_); clear S; intro w9 S
  (first | refine hK.out _ _ (S.sub subA) (fun _ => ?_) | (go_wp2_with fail; refine hK.out _ _ (S.sub subA) (fun _ => ?_)))
  clear hK K
  (try simp only [Act.put, List.setIfInBounds_toArray, List.set_cons_zero, List.set_cons_succ])
  refine tk 3 ?_
  (try simp only [Act.put, List.setIfInBounds_toArray, List.set_cons_zero, List.set_cons_succ])
  refine wpAnyH_done (by kernel_rfl) ?_ _
  refine NoPanic.normal ?_
  go_wp2
  (refine Sep.ret1_1 S rfl rfl memA Tryd.underlying24 rfl ts24 rfl rfl ?_)
  exact ⟨rfl, S.frame⟩
set_option maxHeartbeats 6400000 in
theorem parse_bad6 (w : World) (s : List UInt8) (hl : s.length ≤ 24) (a0 a1 a2 a3 a4 a5 a6 : List UInt8) (hw : cutA [] s = [a0, a1, a2, a3, a4, a5, a6]) (v0 : Int) (o0 : Lib.atoiAll a0 = .ok v0) (v1 : Int) (o1 : Lib.atoiAll a1 = .ok v1) (v2 : Int) (o2 : Lib.atoiAll a2 = .ok v2) (v3 : Int) (o3 : Lib.atoiAll a3 = .ok v3) (v4 : Int) (o4 : Lib.atoiAll a4 = .ok v4) (v5 : Int) (o5 : Lib.atoiAll a5 = .ok v5) (hb : ∀ v, Lib.atoiAll a6 ≠ .ok v) {a : Addr} (L : Laid a w) : Calls Tryd.prog 28 #[.string ⟨s.toArray⟩] w (ErrRet a w) := by
  have S := Sep.start w
  have LD := Lib.hid L
  have d1 : decide ((24 : Int) < (s.length : Int)) = false := decide_eq_false (by omega)
  have hN := Lib.hid (show (cutA [] s).length = 7 by rw [hw]; rfl)
  have hX := Lib.hid (show ((cutA [] s).map fun l => Value.string ⟨l.toArray⟩) = [.string ⟨a0.toArray⟩, .string ⟨a1.toArray⟩, .string ⟨a2.toArray⟩, .string ⟨a3.toArray⟩, .string ⟨a4.toArray⟩, .string ⟨a5.toArray⟩, .string ⟨a6.toArray⟩] by rw [hw]; rfl)
  have W : ∀ x ∈ [a0, a1, a2, a3, a4, a5, a6], x.length ≤ 24 := fun x hx => by have := cutA_len s [] x (by rw [hw]; exact hx); simp at this; omega
  have m0 := Lib.hid (W a0 (by simp))
  have m1 := Lib.hid (W a1 (by simp))
  have m2 := Lib.hid (W a2 (by simp))
  have m3 := Lib.hid (W a3 (by simp))
  have m4 := Lib.hid (W a4 (by simp))
  have m5 := Lib.hid (W a5 (by simp))
  have m6 := Lib.hid (W a6 (by simp))
  replace o0 := Lib.hid o0
  replace o1 := Lib.hid o1
  replace o2 := Lib.hid o2
  replace o3 := Lib.hid o3
  replace o4 := Lib.hid o4
  replace o5 := Lib.hid o5
  replace hb := Lib.hid hb
  have w1 : IntKind.i64.wrap 1 = 1 := by decide
  have w2 : IntKind.i64.wrap 2 = 2 := by decide
  have w3 : IntKind.i64.wrap 3 = 3 := by decide
  have w4 : IntKind.i64.wrap 4 = 4 := by decide
  have w5 : IntKind.i64.wrap 5 = 5 := by decide
  have w6 : IntKind.i64.wrap 6 = 6 := by decide
  have w7 : IntKind.i64.wrap 7 = 7 := by decide
  clear L W hw
  go_enter Tryd.func28, Tryd.ntmps28
  go_wp2_with (first | (go_at_call 39; go_loud ((with_reducible refine (Split_c _ s hl (LD.out.fr S.frame) 7 [.string ⟨a0.toArray⟩, .string ⟨a1.toArray⟩, .string ⟨a2.toArray⟩, .string ⟨a3.toArray⟩, .string ⟨a4.toArray⟩, .string ⟨a5.toArray⟩, .string ⟨a6.toArray⟩] hN.out hX.out).mono ?_); rintro e w9 ⟨g, rfl, b9, z9, f9⟩; replace S := S.new _ b9 (by simp [aBox]) (fun q hq => by rw [List.mem_singleton.1 hq]; exact z9) f9; clear b9 z9 f9)) | ((with_reducible refine gate_box rfl ?_); refine aBx S ?_; clear S; intro g9 w9 z9 S) | ((with_reducible refine gate_alloc rfl ?_); refine aAl S ?_; clear S; intro g9 w9 z9 S) | ((with_reducible refine gate_load rfl ?_); first | refine aLd S ?_ | refine aPt S ?_ | refine aL1 S ?_) | ((with_reducible refine gate_st rfl ?_); (first | refine aS1 S ?_ | refine aSt S ?_ | refine aSp S ?_); clear S; intro w9 S))
  refine wp_loop_rounds 8 ?_
  rw [rounds_succ]
  go_wp2_with (first | (go_at_call 40; go_loud ((with_reducible refine (Atoi_ok _ a0 m0.out v0 o0.out).mono ?_); rintro e w9 ⟨rfl, f9⟩; replace S := S.fr f9; clear f9)) | ((with_reducible refine gate_box rfl ?_); refine aBx S ?_; clear S; intro g9 w9 z9 S) | ((with_reducible refine gate_alloc rfl ?_); refine aAl S ?_; clear S; intro g9 w9 z9 S) | ((with_reducible refine gate_load rfl ?_); first | refine aLd S ?_ | refine aPt S ?_ | refine aL1 S ?_) | ((with_reducible refine gate_st rfl ?_); (first | refine aS1 S ?_ | refine aSt S ?_ | refine aSp S ?_); clear S; intro w9 S))
  rw [rounds_succ]
  go_wp2_with (first | (go_at_call 40; go_loud ((with_reducible refine (Atoi_ok _ a1 m1.out v1 o1.out).mono ?_); rintro e w9 ⟨rfl, f9⟩; replace S := S.fr f9; clear f9)) | ((with_reducible refine gate_box rfl ?_); refine aBx S ?_; clear S; intro g9 w9 z9 S) | ((with_reducible refine gate_alloc rfl ?_); refine aAl S ?_; clear S; intro g9 w9 z9 S) | ((with_reducible refine gate_load rfl ?_); first | refine aLd S ?_ | refine aPt S ?_ | refine aL1 S ?_) | ((with_reducible refine gate_st rfl ?_); (first | refine aS1 S ?_ | refine aSt S ?_ | refine aSp S ?_); clear S; intro w9 S))
  rw [rounds_succ]
  go_wp2_with (first | (go_at_call 40; go_loud ((with_reducible refine (Atoi_ok _ a2 m2.out v2 o2.out).mono ?_); rintro e w9 ⟨rfl, f9⟩; replace S := S.fr f9; clear f9)) | ((with_reducible refine gate_box rfl ?_); refine aBx S ?_; clear S; intro g9 w9 z9 S) | ((with_reducible refine gate_alloc rfl ?_); refine aAl S ?_; clear S; intro g9 w9 z9 S) | ((with_reducible refine gate_load rfl ?_); first | refine aLd S ?_ | refine aPt S ?_ | refine aL1 S ?_) | ((with_reducible refine gate_st rfl ?_); (first | refine aS1 S ?_ | refine aSt S ?_ | refine aSp S ?_); clear S; intro w9 S))
  rw [rounds_succ]
  go_wp2_with (first | (go_at_call 40; go_loud ((with_reducible refine (Atoi_ok _ a3 m3.out v3 o3.out).mono ?_); rintro e w9 ⟨rfl, f9⟩; replace S := S.fr f9; clear f9)) | ((with_reducible refine gate_box rfl ?_); refine aBx S ?_; clear S; intro g9 w9 z9 S) | ((with_reducible refine gate_alloc rfl ?_); refine aAl S ?_; clear S; intro g9 w9 z9 S) | ((with_reducible refine gate_load rfl ?_); first | refine aLd S ?_ | refine aPt S ?_ | refine aL1 S ?_) | ((with_reducible refine gate_st rfl ?_); (first | refine aS1 S ?_ | refine aSt S ?_ | refine aSp S ?_); clear S; intro w9 S))
  rw [rounds_succ]
  go_wp2_with (first | (go_at_call 40; go_loud ((with_reducible refine (Atoi_ok _ a4 m4.out v4 o4.out).mono ?_); rintro e w9 ⟨rfl, f9⟩; replace S := S.fr f9; clear f9)) | ((with_reducible refine gate_box rfl ?_); refine aBx S ?_; clear S; intro g9 w9 z9 S) | ((with_reducible refine gate_alloc rfl ?_); refine aAl S ?_; clear S; intro g9 w9 z9 S) | ((with_reducible refine gate_load rfl ?_); first | refine aLd S ?_ | refine aPt S ?_ | refine aL1 S ?_) | ((with_reducible refine gate_st rfl ?_); (first | refine aS1 S ?_ | refine aSt S ?_ | refine aSp S ?_); clear S; intro w9 S))
  rw [rounds_succ]
  go_wp2_with (first | (go_at_call 40; go_loud ((with_reducible refine (Atoi_ok _ a5 m5.out v5 o5.out).mono ?_); rintro e w9 ⟨rfl, f9⟩; replace S := S.fr f9; clear f9)) | ((with_reducible refine gate_box rfl ?_); refine aBx S ?_; clear S; intro g9 w9 z9 S) | ((with_reducible refine gate_alloc rfl ?_); refine aAl S ?_; clear S; intro g9 w9 z9 S) | ((with_reducible refine gate_load rfl ?_); first | refine aLd S ?_ | refine aPt S ?_ | refine aL1 S ?_) | ((with_reducible refine gate_st rfl ?_); (first | refine aS1 S ?_ | refine aSt S ?_ | refine aSp S ?_); clear S; intro w9 S))
  rw [rounds_succ]
  go_wp2_with (first | (go_at_call 40; go_loud ((with_reducible refine (Atoi_bad _ a6 m6.out hb.out (LD.out.fr S.frame)).mono ?_); rintro e w9 ⟨n, N, rfl, f9⟩; replace S := S.fr f9; clear f9)) | ((with_reducible refine gate_box rfl ?_); refine aBx S ?_; clear S; intro g9 w9 z9 S) | ((with_reducible refine gate_alloc rfl ?_); refine aAl S ?_; clear S; intro g9 w9 z9 S) | ((with_reducible refine gate_load rfl ?_); first | refine aLd S ?_ | refine aPt S ?_ | refine aL1 S ?_) | ((with_reducible refine gate_st rfl ?_); (first | refine aS1 S ?_ | refine aSt S ?_ | refine aSp S ?_); clear S; intro w9 S))
  have S0 := S
  refine wp_region_noPanic ?_
  refine wp_region_held_drew (S := Sep _ _ _) (by kernel_rfl) S0.drew (fun _ => ?_)
  replace S := S.drew
  clear S0
  refine tk 0 ?_
  (try simp only [Act.put, List.setIfInBounds_toArray, List.set_cons_zero, List.set_cons_succ])
  refine tk 1 ?_ (hy := by (refine' yields_cell (v := .iface 120 (.pointer (some a))) ?ta 47 _ ?tb ?tc ?td _ ?te ?tf; (case ta => rfl); (case tb => rfl); (case tc => rfl); (case td => exact fun W hW => hW.frame.cell LD.out.e0); (case te => exact Tryd.underlying47); (case tf => rfl)))
  (try simp only [Act.put, List.setIfInBounds_toArray, List.set_cons_zero, List.set_cons_succ])
  refine rdy1 2 (fun K hK => ?_)
  (first | refine rgS1 S ?_ | refine rgSt S ?_ | refine rgSp S ?_); clear S; intro w9 S
  (first | refine hK.out _ _ (S.sub subA) (fun _ => ?_) | (go_wp2_with fail; refine hK.out _ _ (S.sub subA) (fun _ => ?_)))
  clear hK K
  (try simp only [Act.put, List.setIfInBounds_toArray, List.set_cons_zero, List.set_cons_succ])
  refine tk 3 ?_
  (try simp only [Act.put, List.setIfInBounds_toArray, List.set_cons_zero, List.set_cons_succ])
  refine wpAnyH_done (by kernel_rfl) ?_ _
  refine NoPanic.normal ?_
  go_wp2
  (refine Sep.ret1_1 S rfl rfl memA Tryd.underlying24 rfl ts24 rfl rfl ?_)
  exact ⟨rfl, S.frame⟩
end Go.Proofs.YtphojlkljlnfjaaDoor
