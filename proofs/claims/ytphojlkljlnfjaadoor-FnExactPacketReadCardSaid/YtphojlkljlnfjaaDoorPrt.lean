/- The program's PacketRead: what it makes of a text. -/
import Derived.Test.YtphojlkljlnfjaaDoorPrs
namespace Go.Proofs.YtphojlkljlnfjaaDoor
set_option maxRecDepth 100000
set_option linter.unusedVariables false
set_option linter.unusedSimpArgs false
open Go.RowKit
theorem PacketOk_v (w : World) (v0 v1 v2 v3 v4 v5 v6 : Int) {r : Bool} (h : okPk ⟨v0, v1, v2, v3, v4, v5, v6⟩ = r) : Calls Tryd.prog 16 #[.agg #[.int .i64 v0, .int .i64 v1, .int .i64 v2, .int .i64 v3, .int .i64 v4, .int .i64 v5, .int .i64 v6]] w (Ret (.bool r) w) := h ▸ PacketOk_c w ⟨v0, v1, v2, v3, v4, v5, v6⟩
theorem PacketText_v (w : World) (v0 v1 v2 v3 v4 v5 v6 : Int) {t : List UInt8} (h : txtV ⟨v0, v1, v2, v3, v4, v5, v6⟩ = t) : Calls Tryd.prog 10 #[.agg #[.int .i64 v0, .int .i64 v1, .int .i64 v2, .int .i64 v3, .int .i64 v4, .int .i64 v5, .int .i64 v6]] w (Ret (.string ⟨t.toArray⟩) w) := h ▸ PacketText_c w ⟨v0, v1, v2, v3, v4, v5, v6⟩
set_option maxHeartbeats 6400000 in
theorem parse_no1 (w : World) (s : List UInt8) (hl : s.length ≤ 24) (a0 a1 a2 a3 a4 a5 a6 : List UInt8) (hw : cutA [] s = [a0, a1, a2, a3, a4, a5, a6]) (v0 : Int) (o0 : Lib.atoiAll a0 = .ok v0) (v1 : Int) (o1 : Lib.atoiAll a1 = .ok v1) (v2 : Int) (o2 : Lib.atoiAll a2 = .ok v2) (v3 : Int) (o3 : Lib.atoiAll a3 = .ok v3) (v4 : Int) (o4 : Lib.atoiAll a4 = .ok v4) (v5 : Int) (o5 : Lib.atoiAll a5 = .ok v5) (v6 : Int) (o6 : Lib.atoiAll a6 = .ok v6) (hk : okPk ⟨v0, v1, v2, v3, v4, v5, v6⟩ = false) {a : Addr} (L : Laid a w) : Calls Tryd.prog 28 #[.string ⟨s.toArray⟩] w (ErrRet a w) := by
  have S := Sep.start w
  have LD := Lib.hid L
  have d1 : decide ((24 : Int) < (s.length : Int)) = false := decide_eq_false (by omega)
  have hN := Lib.hid (show (cutA [] s).length = 7 by rw [hw]; rfl)
  have hX := Lib.hid (show ((cutA [] s).map fun l => Value.string ⟨l.toArray⟩) = [.string ⟨a0.toArray⟩, .string ⟨a1.toArray⟩, .string ⟨a2.toArray⟩, .string ⟨a3.toArray⟩, .string ⟨a4.toArray⟩, .string ⟨a5.toArray⟩, .string ⟨a6.toArray⟩] by rw [hw]; rfl)
  have W : ∀ x ∈ [a0, a1, a2, a3, a4, a5, a6], x.length ≤ 24 := fun x hx => by have := cutA_len s [] x (by rw [hw]; exact hx); simp at this; omega
  have m0 := Lib.hid (W a0 (by simp))
  have m1 := Lib.hid (W a1 (by simp))
  have m2 := Lib.hid (W a2 (by simp))
  have m3 := Lib.hid (W a3 (by simp))
  have m4 := Lib.hid (W a4 (by simp))
  have m5 := Lib.hid (W a5 (by simp))
  have m6 := Lib.hid (W a6 (by simp))
  replace o0 := Lib.hid o0
  replace o1 := Lib.hid o1
  replace o2 := Lib.hid o2
  replace o3 := Lib.hid o3
  replace o4 := Lib.hid o4
  replace o5 := Lib.hid o5
  replace o6 := Lib.hid o6
  have w1 : IntKind.i64.wrap 1 = 1 := by decide
  have w2 : IntKind.i64.wrap 2 = 2 := by decide
  have w3 : IntKind.i64.wrap 3 = 3 := by decide
  have w4 : IntKind.i64.wrap 4 = 4 := by decide
  have w5 : IntKind.i64.wrap 5 = 5 := by decide
  have w6 : IntKind.i64.wrap 6 = 6 := by decide
  have w7 : IntKind.i64.wrap 7 = 7 := by decide
  clear L W hw
  go_enter Tryd.func28, Tryd.ntmps28
  go_wp2_with (first | (go_at_call 39; go_loud ((with_reducible refine (Split_c _ s hl (LD.out.fr S.frame) 7 [.string ⟨a0.toArray⟩, .string ⟨a1.toArray⟩, .string ⟨a2.toArray⟩, .string ⟨a3.toArray⟩, .string ⟨a4.toArray⟩, .string ⟨a5.toArray⟩, .string ⟨a6.toArray⟩] hN.out hX.out).mono ?_); rintro e w9 ⟨g, rfl, b9, z9, f9⟩; replace S := S.new _ b9 (by simp [aBox]) (fun q hq => by rw [List.mem_singleton.1 hq]; exact z9) f9; clear b9 z9 f9)) | ((with_reducible refine gate_box rfl ?_); refine aBx S ?_; clear S; intro g9 w9 z9 S) | ((with_reducible refine gate_alloc rfl ?_); refine aAl S ?_; clear S; intro g9 w9 z9 S) | ((with_reducible refine gate_load rfl ?_); first | refine aLd S ?_ | refine aPt S ?_ | refine aL1 S ?_) | ((with_reducible refine gate_st rfl ?_); (first | refine aS1 S ?_ | refine aSt S ?_ | refine aSp S ?_); clear S; intro w9 S))
  refine wp_loop_rounds 8 ?_
  rw [rounds_succ]
  go_wp2_with (first | (go_at_call 40; go_loud ((with_reducible refine (Atoi_ok _ a0 m0.out v0 o0.out).mono ?_); rintro e w9 ⟨rfl, f9⟩; replace S := S.fr f9; clear f9)) | ((with_reducible refine gate_box rfl ?_); refine aBx S ?_; clear S; intro g9 w9 z9 S) | ((with_reducible refine gate_alloc rfl ?_); refine aAl S ?_; clear S; intro g9 w9 z9 S) | ((with_reducible refine gate_load rfl ?_); first | refine aLd S ?_ | refine aPt S ?_ | refine aL1 S ?_) | ((with_reducible refine gate_st rfl ?_); (first | refine aS1 S ?_ | refine aSt S ?_ | refine aSp S ?_); clear S; intro w9 S))
  rw [rounds_succ]
  go_wp2_with (first | (go_at_call 40; go_loud ((with_reducible refine (Atoi_ok _ a1 m1.out v1 o1.out).mono ?_); rintro e w9 ⟨rfl, f9⟩; replace S := S.fr f9; clear f9)) | ((with_reducible refine gate_box rfl ?_); refine aBx S ?_; clear S; intro g9 w9 z9 S) | ((with_reducible refine gate_alloc rfl ?_); refine aAl S ?_; clear S; intro g9 w9 z9 S) | ((with_reducible refine gate_load rfl ?_); first | refine aLd S ?_ | refine aPt S ?_ | refine aL1 S ?_) | ((with_reducible refine gate_st rfl ?_); (first | refine aS1 S ?_ | refine aSt S ?_ | refine aSp S ?_); clear S; intro w9 S))
  rw [rounds_succ]
  go_wp2_with (first | (go_at_call 40; go_loud ((with_reducible refine (Atoi_ok _ a2 m2.out v2 o2.out).mono ?_); rintro e w9 ⟨rfl, f9⟩; replace S := S.fr f9; clear f9)) | ((with_reducible refine gate_box rfl ?_); refine aBx S ?_; clear S; intro g9 w9 z9 S) | ((with_reducible refine gate_alloc rfl ?_); refine aAl S ?_; clear S; intro g9 w9 z9 S) | ((with_reducible refine gate_load rfl ?_); first | refine aLd S ?_ | refine aPt S ?_ | refine aL1 S ?_) | ((with_reducible refine gate_st rfl ?_); (first | refine aS1 S ?_ | refine aSt S ?_ | refine aSp S ?_); clear S; intro w9 S))
  rw [rounds_succ]
  go_wp2_with (first | (go_at_call 40; go_loud ((with_reducible refine (Atoi_ok _ a3 m3.out v3 o3.out).mono ?_); rintro e w9 ⟨rfl, f9⟩; replace S := S.fr f9; clear f9)) | ((with_reducible refine gate_box rfl ?_); refine aBx S ?_; clear S; intro g9 w9 z9 S) | ((with_reducible refine gate_alloc rfl ?_); refine aAl S ?_; clear S; intro g9 w9 z9 S) | ((with_reducible refine gate_load rfl ?_); first | refine aLd S ?_ | refine aPt S ?_ | refine aL1 S ?_) | ((with_reducible refine gate_st rfl ?_); (first | refine aS1 S ?_ | refine aSt S ?_ | refine aSp S ?_); clear S; intro w9 S))
  rw [rounds_succ]
  go_wp2_with (first | (go_at_call 40; go_loud ((with_reducible refine (Atoi_ok _ a4 m4.out v4 o4.out).mono ?_); rintro e w9 ⟨rfl, f9⟩; replace S := S.fr f9; clear f9)) | ((with_reducible refine gate_box rfl ?_); refine aBx S ?_; clear S; intro g9 w9 z9 S) | ((with_reducible refine gate_alloc rfl ?_); refine aAl S ?_; clear S; intro g9 w9 z9 S) | ((with_reducible refine gate_load rfl ?_); first | refine aLd S ?_ | refine aPt S ?_ | refine aL1 S ?_) | ((with_reducible refine gate_st rfl ?_); (first | refine aS1 S ?_ | refine aSt S ?_ | refine aSp S ?_); clear S; intro w9 S))
  rw [rounds_succ]
  go_wp2_with (first | (go_at_call 40; go_loud ((with_reducible refine (Atoi_ok _ a5 m5.out v5 o5.out).mono ?_); rintro e w9 ⟨rfl, f9⟩; replace S := S.fr f9; clear f9)) | ((with_reducible refine gate_box rfl ?_); refine aBx S ?_; clear S; intro g9 w9 z9 S) | ((with_reducible refine gate_alloc rfl ?_); refine aAl S ?_; clear S; intro g9 w9 z9 S) | ((with_reducible refine gate_load rfl ?_); first | refine aLd S ?_ | refine aPt S ?_ | refine aL1 S ?_) | ((with_reducible refine gate_st rfl ?_); (first | refine aS1 S ?_ | refine aSt S ?_ | refine aSp S ?_); clear S; intro w9 S))
  rw [rounds_succ]
  go_wp2_with (first | (go_at_call 40; go_loud ((with_reducible refine (Atoi_ok _ a6 m6.out v6 o6.out).mono ?_); rintro e w9 ⟨rfl, f9⟩; replace S := S.fr f9; clear f9)) | ((with_reducible refine gate_box rfl ?_); refine aBx S ?_; clear S; intro g9 w9 z9 S) | ((with_reducible refine gate_alloc rfl ?_); refine aAl S ?_; clear S; intro g9 w9 z9 S) | ((with_reducible refine gate_load rfl ?_); first | refine aLd S ?_ | refine aPt S ?_ | refine aL1 S ?_) | ((with_reducible refine gate_st rfl ?_); (first | refine aS1 S ?_ | refine aSt S ?_ | refine aSp S ?_); clear S; intro w9 S))
  replace hk := Lib.hid hk
  rw [rounds_succ]
  go_wp2_with (first | (go_at_call 41; (with_reducible refine (packetOf_c _ v0 v1 v2 v3 v4 v5 v6).mono ?_); rintro e w9 ⟨rfl, f9⟩; replace S := S.fr f9; clear f9) | (go_at_call 16; go_loud ((with_reducible refine (PacketOk_v _ v0 v1 v2 v3 v4 v5 v6 hk.out).mono ?_); rintro e w9 ⟨rfl, f9⟩; replace S := S.fr f9; clear f9)) | ((with_reducible refine gate_box rfl ?_); refine aBx S ?_; clear S; intro g9 w9 z9 S) | ((with_reducible refine gate_alloc rfl ?_); refine aAl S ?_; clear S; intro g9 w9 z9 S) | ((with_reducible refine gate_load rfl ?_); first | refine aLd S ?_ | refine aPt S ?_ | refine aL1 S ?_) | ((with_reducible refine gate_st rfl ?_); (first | refine aS1 S ?_ | refine aSt S ?_ | refine aSp S ?_); clear S; intro w9 S))
  have S0 := S
  refine wp_region_noPanic ?_
  refine wp_region_held_drew (S := Sep _ _ _) (by kernel_rfl) S0.drew (fun _ => ?_)
  replace S := S.drew
  clear S0
  refine tk 0 ?_
  (try simp only [Act.put, List.setIfInBounds_toArray, List.set_cons_zero, List.set_cons_succ])
  refine tk 1 ?_ (hy := by (refine' yields_cell (v := .iface 120 (.pointer (some a))) ?ta 47 _ ?tb ?tc ?td _ ?te ?tf; (case ta => rfl); (case tb => rfl); (case tc => rfl); (case td => exact fun W hW => hW.frame.cell LD.out.e0); (case te => exact Tryd.underlying47); (case tf => rfl)))
  (try simp only [Act.put, List.setIfInBounds_toArray, List.set_cons_zero, List.set_cons_succ])
  refine rdy1 2 (fun K hK => ?_)
  (first | refine rgS1 S ?_ | refine rgSt S ?_ | refine rgSp S ?_); clear S; intro w9 S
  (first | refine hK.out _ _ (S.sub subA) (fun _ => ?_) | (go_wp2_with fail; refine hK.out _ _ (S.sub subA) (fun _ => ?_)))
  clear hK K
  (try simp only [Act.put, List.setIfInBounds_toArray, List.set_cons_zero, List.set_cons_succ])
  refine tk 3 ?_
  (try simp only [Act.put, List.setIfInBounds_toArray, List.set_cons_zero, List.set_cons_succ])
  refine wpAnyH_done (by kernel_rfl) ?_ _
  refine NoPanic.normal ?_
  go_wp2
  (refine Sep.ret1_1 S rfl rfl memA Tryd.underlying24 rfl ts24 rfl rfl ?_)
  exact ⟨rfl, S.frame⟩
set_option maxHeartbeats 6400000 in
theorem parse_no2 (w : World) (s : List UInt8) (hl : s.length ≤ 24) (a0 a1 a2 a3 a4 a5 a6 : List UInt8) (hw : cutA [] s = [a0, a1, a2, a3, a4, a5, a6]) (v0 : Int) (o0 : Lib.atoiAll a0 = .ok v0) (v1 : Int) (o1 : Lib.atoiAll a1 = .ok v1) (v2 : Int) (o2 : Lib.atoiAll a2 = .ok v2) (v3 : Int) (o3 : Lib.atoiAll a3 = .ok v3) (v4 : Int) (o4 : Lib.atoiAll a4 = .ok v4) (v5 : Int) (o5 : Lib.atoiAll a5 = .ok v5) (v6 : Int) (o6 : Lib.atoiAll a6 = .ok v6) (hk : okPk ⟨v0, v1, v2, v3, v4, v5, v6⟩ = true) (t : List UInt8) (ht : txtV ⟨v0, v1, v2, v3, v4, v5, v6⟩ = t) (hne : ¬ t = s) {a : Addr} (L : Laid a w) : Calls Tryd.prog 28 #[.string ⟨s.toArray⟩] w (ErrRet a w) := by
  have S := Sep.start w
  have LD := Lib.hid L
  have d1 : decide ((24 : Int) < (s.length : Int)) = false := decide_eq_false (by omega)
  have hN := Lib.hid (show (cutA [] s).length = 7 by rw [hw]; rfl)
  have hX := Lib.hid (show ((cutA [] s).map fun l => Value.string ⟨l.toArray⟩) = [.string ⟨a0.toArray⟩, .string ⟨a1.toArray⟩, .string ⟨a2.toArray⟩, .string ⟨a3.toArray⟩, .string ⟨a4.toArray⟩, .string ⟨a5.toArray⟩, .string ⟨a6.toArray⟩] by rw [hw]; rfl)
  have W : ∀ x ∈ [a0, a1, a2, a3, a4, a5, a6], x.length ≤ 24 := fun x hx => by have := cutA_len s [] x (by rw [hw]; exact hx); simp at this; omega
  have m0 := Lib.hid (W a0 (by simp))
  have m1 := Lib.hid (W a1 (by simp))
  have m2 := Lib.hid (W a2 (by simp))
  have m3 := Lib.hid (W a3 (by simp))
  have m4 := Lib.hid (W a4 (by simp))
  have m5 := Lib.hid (W a5 (by simp))
  have m6 := Lib.hid (W a6 (by simp))
  replace o0 := Lib.hid o0
  replace o1 := Lib.hid o1
  replace o2 := Lib.hid o2
  replace o3 := Lib.hid o3
  replace o4 := Lib.hid o4
  replace o5 := Lib.hid o5
  replace o6 := Lib.hid o6
  have w1 : IntKind.i64.wrap 1 = 1 := by decide
  have w2 : IntKind.i64.wrap 2 = 2 := by decide
  have w3 : IntKind.i64.wrap 3 = 3 := by decide
  have w4 : IntKind.i64.wrap 4 = 4 := by decide
  have w5 : IntKind.i64.wrap 5 = 5 := by decide
  have w6 : IntKind.i64.wrap 6 = 6 := by decide
  have w7 : IntKind.i64.wrap 7 = 7 := by decide
  clear L W hw
  go_enter Tryd.func28, Tryd.ntmps28
  go_wp2_with (first | (go_at_call 39; go_loud ((with_reducible refine (Split_c _ s hl (LD.out.fr S.frame) 7 [.string ⟨a0.toArray⟩, .string ⟨a1.toArray⟩, .string ⟨a2.toArray⟩, .string ⟨a3.toArray⟩, .string ⟨a4.toArray⟩, .string ⟨a5.toArray⟩, .string ⟨a6.toArray⟩] hN.out hX.out).mono ?_); rintro e w9 ⟨g, rfl, b9, z9, f9⟩; replace S := S.new _ b9 (by simp [aBox]) (fun q hq => by rw [List.mem_singleton.1 hq]; exact z9) f9; clear b9 z9 f9)) | ((with_reducible refine gate_box rfl ?_); refine aBx S ?_; clear S; intro g9 w9 z9 S) | ((with_reducible refine gate_alloc rfl ?_); refine aAl S ?_; clear S; intro g9 w9 z9 S) | ((with_reducible refine gate_load rfl ?_); first | refine aLd S ?_ | refine aPt S ?_ | refine aL1 S ?_) | ((with_reducible refine gate_st rfl ?_); (first | refine aS1 S ?_ | refine aSt S ?_ | refine aSp S ?_); clear S; intro w9 S))
  refine wp_loop_rounds 8 ?_
  rw [rounds_succ]
  go_wp2_with (first | (go_at_call 40; go_loud ((with_reducible refine (Atoi_ok _ a0 m0.out v0 o0.out).mono ?_); rintro e w9 ⟨rfl, f9⟩; replace S := S.fr f9; clear f9)) | ((with_reducible refine gate_box rfl ?_); refine aBx S ?_; clear S; intro g9 w9 z9 S) | ((with_reducible refine gate_alloc rfl ?_); refine aAl S ?_; clear S; intro g9 w9 z9 S) | ((with_reducible refine gate_load rfl ?_); first | refine aLd S ?_ | refine aPt S ?_ | refine aL1 S ?_) | ((with_reducible refine gate_st rfl ?_); (first | refine aS1 S ?_ | refine aSt S ?_ | refine aSp S ?_); clear S; intro w9 S))
  rw [rounds_succ]
  go_wp2_with (first | (go_at_call 40; go_loud ((with_reducible refine (Atoi_ok _ a1 m1.out v1 o1.out).mono ?_); rintro e w9 ⟨rfl, f9⟩; replace S := S.fr f9; clear f9)) | ((with_reducible refine gate_box rfl ?_); refine aBx S ?_; clear S; intro g9 w9 z9 S) | ((with_reducible refine gate_alloc rfl ?_); refine aAl S ?_; clear S; intro g9 w9 z9 S) | ((with_reducible refine gate_load rfl ?_); first | refine aLd S ?_ | refine aPt S ?_ | refine aL1 S ?_) | ((with_reducible refine gate_st rfl ?_); (first | refine aS1 S ?_ | refine aSt S ?_ | refine aSp S ?_); clear S; intro w9 S))
  rw [rounds_succ]
  go_wp2_with (first | (go_at_call 40; go_loud ((with_reducible refine (Atoi_ok _ a2 m2.out v2 o2.out).mono ?_); rintro e w9 ⟨rfl, f9⟩; replace S := S.fr f9; clear f9)) | ((with_reducible refine gate_box rfl ?_); refine aBx S ?_; clear S; intro g9 w9 z9 S) | ((with_reducible refine gate_alloc rfl ?_); refine aAl S ?_; clear S; intro g9 w9 z9 S) | ((with_reducible refine gate_load rfl ?_); first | refine aLd S ?_ | refine aPt S ?_ | refine aL1 S ?_) | ((with_reducible refine gate_st rfl ?_); (first | refine aS1 S ?_ | refine aSt S ?_ | refine aSp S ?_); clear S; intro w9 S))
  rw [rounds_succ]
  go_wp2_with (first | (go_at_call 40; go_loud ((with_reducible refine (Atoi_ok _ a3 m3.out v3 o3.out).mono ?_); rintro e w9 ⟨rfl, f9⟩; replace S := S.fr f9; clear f9)) | ((with_reducible refine gate_box rfl ?_); refine aBx S ?_; clear S; intro g9 w9 z9 S) | ((with_reducible refine gate_alloc rfl ?_); refine aAl S ?_; clear S; intro g9 w9 z9 S) | ((with_reducible refine gate_load rfl ?_); first | refine aLd S ?_ | refine aPt S ?_ | refine aL1 S ?_) | ((with_reducible refine gate_st rfl ?_); (first | refine aS1 S ?_ | refine aSt S ?_ | refine aSp S ?_); clear S; intro w9 S))
  rw [rounds_succ]
  go_wp2_with (first | (go_at_call 40; go_loud ((with_reducible refine (Atoi_ok _ a4 m4.out v4 o4.out).mono ?_); rintro e w9 ⟨rfl, f9⟩; replace S := S.fr f9; clear f9)) | ((with_reducible refine gate_box rfl ?_); refine aBx S ?_; clear S; intro g9 w9 z9 S) | ((with_reducible refine gate_alloc rfl ?_); refine aAl S ?_; clear S; intro g9 w9 z9 S) | ((with_reducible refine gate_load rfl ?_); first | refine aLd S ?_ | refine aPt S ?_ | refine aL1 S ?_) | ((with_reducible refine gate_st rfl ?_); (first | refine aS1 S ?_ | refine aSt S ?_ | refine aSp S ?_); clear S; intro w9 S))
  rw [rounds_succ]
  go_wp2_with (first | (go_at_call 40; go_loud ((with_reducible refine (Atoi_ok _ a5 m5.out v5 o5.out).mono ?_); rintro e w9 ⟨rfl, f9⟩; replace S := S.fr f9; clear f9)) | ((with_reducible refine gate_box rfl ?_); refine aBx S ?_; clear S; intro g9 w9 z9 S) | ((with_reducible refine gate_alloc rfl ?_); refine aAl S ?_; clear S; intro g9 w9 z9 S) | ((with_reducible refine gate_load rfl ?_); first | refine aLd S ?_ | refine aPt S ?_ | refine aL1 S ?_) | ((with_reducible refine gate_st rfl ?_); (first | refine aS1 S ?_ | refine aSt S ?_ | refine aSp S ?_); clear S; intro w9 S))
  rw [rounds_succ]
  go_wp2_with (first | (go_at_call 40; go_loud ((with_reducible refine (Atoi_ok _ a6 m6.out v6 o6.out).mono ?_); rintro e w9 ⟨rfl, f9⟩; replace S := S.fr f9; clear f9)) | ((with_reducible refine gate_box rfl ?_); refine aBx S ?_; clear S; intro g9 w9 z9 S) | ((with_reducible refine gate_alloc rfl ?_); refine aAl S ?_; clear S; intro g9 w9 z9 S) | ((with_reducible refine gate_load rfl ?_); first | refine aLd S ?_ | refine aPt S ?_ | refine aL1 S ?_) | ((with_reducible refine gate_st rfl ?_); (first | refine aS1 S ?_ | refine aSt S ?_ | refine aSp S ?_); clear S; intro w9 S))
  replace hk := Lib.hid hk
  replace ht := Lib.hid ht
  have hne2 : (t == s) = false := by simpa using hne
  rw [rounds_succ]
  go_wp2_with (first | (go_at_call 41; (with_reducible refine (packetOf_c _ v0 v1 v2 v3 v4 v5 v6).mono ?_); rintro e w9 ⟨rfl, f9⟩; replace S := S.fr f9; clear f9) | (go_at_call 16; go_loud ((with_reducible refine (PacketOk_v _ v0 v1 v2 v3 v4 v5 v6 hk.out).mono ?_); rintro e w9 ⟨rfl, f9⟩; replace S := S.fr f9; clear f9)) | (go_at_call 10; go_loud ((with_reducible refine (PacketText_v _ v0 v1 v2 v3 v4 v5 v6 ht.out).mono ?_); rintro e w9 ⟨rfl, f9⟩; replace S := S.fr f9; clear f9)) | ((with_reducible refine gate_box rfl ?_); refine aBx S ?_; clear S; intro g9 w9 z9 S) | ((with_reducible refine gate_alloc rfl ?_); refine aAl S ?_; clear S; intro g9 w9 z9 S) | ((with_reducible refine gate_load rfl ?_); first | refine aLd S ?_ | refine aPt S ?_ | refine aL1 S ?_) | ((with_reducible refine gate_st rfl ?_); (first | refine aS1 S ?_ | refine aSt S ?_ | refine aSp S ?_); clear S; intro w9 S))
  have S0 := S
  refine wp_region_noPanic ?_
  refine wp_region_held_drew (S := Sep _ _ _) (by kernel_rfl) S0.drew (fun _ => ?_)
  replace S := S.drew
  clear S0
  refine tk 0 ?_
  (try simp only [Act.put, List.setIfInBounds_toArray, List.set_cons_zero, List.set_cons_succ])
  refine tk 1 ?_ (hy := by (refine' yields_cell (v := .iface 120 (.pointer (some a))) ?ta 47 _ ?tb ?tc ?td _ ?te ?tf; (case ta => rfl); (case tb => rfl); (case tc => rfl); (case td => exact fun W hW => hW.frame.cell LD.out.e0); (case te => exact Tryd.underlying47); (case tf => rfl)))
  (try simp only [Act.put, List.setIfInBounds_toArray, List.set_cons_zero, List.set_cons_succ])
  refine rdy1 2 (fun K hK => ?_)
  (first | refine rgS1 S ?_ | refine rgSt S ?_ | refine rgSp S ?_); clear S; intro w9 S
  (first | refine hK.out _ _ (S.sub subA) (fun _ => ?_) | (go_wp2_with fail; refine hK.out _ _ (S.sub subA) (fun _ => ?_)))
  clear hK K
  (try simp only [Act.put, List.setIfInBounds_toArray, List.set_cons_zero, List.set_cons_succ])
  refine tk 3 ?_
  (try simp only [Act.put, List.setIfInBounds_toArray, List.set_cons_zero, List.set_cons_succ])
  refine wpAnyH_done (by kernel_rfl) ?_ _
  refine NoPanic.normal ?_
  go_wp2
  (refine Sep.ret1_1 S rfl rfl memA Tryd.underlying24 rfl ts24 rfl rfl ?_)
  exact ⟨rfl, S.frame⟩
set_option maxHeartbeats 6400000 in
theorem parse_yes (w : World) (s : List UInt8) (hl : s.length ≤ 24) (a0 a1 a2 a3 a4 a5 a6 : List UInt8) (hw : cutA [] s = [a0, a1, a2, a3, a4, a5, a6]) (v0 : Int) (o0 : Lib.atoiAll a0 = .ok v0) (v1 : Int) (o1 : Lib.atoiAll a1 = .ok v1) (v2 : Int) (o2 : Lib.atoiAll a2 = .ok v2) (v3 : Int) (o3 : Lib.atoiAll a3 = .ok v3) (v4 : Int) (o4 : Lib.atoiAll a4 = .ok v4) (v5 : Int) (o5 : Lib.atoiAll a5 = .ok v5) (v6 : Int) (o6 : Lib.atoiAll a6 = .ok v6) (hk : okPk ⟨v0, v1, v2, v3, v4, v5, v6⟩ = true) (ht : txtV ⟨v0, v1, v2, v3, v4, v5, v6⟩ = s) {a : Addr} (L : Laid a w) : Calls Tryd.prog 28 #[.string ⟨s.toArray⟩] w (Ret (.tuple #[.agg #[.int .i64 v0, .int .i64 v1, .int .i64 v2, .int .i64 v3, .int .i64 v4, .int .i64 v5, .int .i64 v6], .nilIface]) w) := by
  have S := Sep.start w
  have LD := Lib.hid L
  have d1 : decide ((24 : Int) < (s.length : Int)) = false := decide_eq_false (by omega)
  have hN := Lib.hid (show (cutA [] s).length = 7 by rw [hw]; rfl)
  have hX := Lib.hid (show ((cutA [] s).map fun l => Value.string ⟨l.toArray⟩) = [.string ⟨a0.toArray⟩, .string ⟨a1.toArray⟩, .string ⟨a2.toArray⟩, .string ⟨a3.toArray⟩, .string ⟨a4.toArray⟩, .string ⟨a5.toArray⟩, .string ⟨a6.toArray⟩] by rw [hw]; rfl)
  have W : ∀ x ∈ [a0, a1, a2, a3, a4, a5, a6], x.length ≤ 24 := fun x hx => by have := cutA_len s [] x (by rw [hw]; exact hx); simp at this; omega
  have m0 := Lib.hid (W a0 (by simp))
  have m1 := Lib.hid (W a1 (by simp))
  have m2 := Lib.hid (W a2 (by simp))
  have m3 := Lib.hid (W a3 (by simp))
  have m4 := Lib.hid (W a4 (by simp))
  have m5 := Lib.hid (W a5 (by simp))
  have m6 := Lib.hid (W a6 (by simp))
  replace o0 := Lib.hid o0
  replace o1 := Lib.hid o1
  replace o2 := Lib.hid o2
  replace o3 := Lib.hid o3
  replace o4 := Lib.hid o4
  replace o5 := Lib.hid o5
  replace o6 := Lib.hid o6
  have w1 : IntKind.i64.wrap 1 = 1 := by decide
  have w2 : IntKind.i64.wrap 2 = 2 := by decide
  have w3 : IntKind.i64.wrap 3 = 3 := by decide
  have w4 : IntKind.i64.wrap 4 = 4 := by decide
  have w5 : IntKind.i64.wrap 5 = 5 := by decide
  have w6 : IntKind.i64.wrap 6 = 6 := by decide
  have w7 : IntKind.i64.wrap 7 = 7 := by decide
  clear L W hw
  go_enter Tryd.func28, Tryd.ntmps28
  go_wp2_with (first | (go_at_call 39; go_loud ((with_reducible refine (Split_c _ s hl (LD.out.fr S.frame) 7 [.string ⟨a0.toArray⟩, .string ⟨a1.toArray⟩, .string ⟨a2.toArray⟩, .string ⟨a3.toArray⟩, .string ⟨a4.toArray⟩, .string ⟨a5.toArray⟩, .string ⟨a6.toArray⟩] hN.out hX.out).mono ?_); rintro e w9 ⟨g, rfl, b9, z9, f9⟩; replace S := S.new _ b9 (by simp [aBox]) (fun q hq => by rw [List.mem_singleton.1 hq]; exact z9) f9; clear b9 z9 f9)) | ((with_reducible refine gate_box rfl ?_); refine aBx S ?_; clear S; intro g9 w9 z9 S) | ((with_reducible refine gate_alloc rfl ?_); refine aAl S ?_; clear S; intro g9 w9 z9 S) | ((with_reducible refine gate_load rfl ?_); first | refine aLd S ?_ | refine aPt S ?_ | refine aL1 S ?_) | ((with_reducible refine gate_st rfl ?_); (first | refine aS1 S ?_ | refine aSt S ?_ | refine aSp S ?_); clear S; intro w9 S))
  refine wp_loop_rounds 8 ?_
  rw [rounds_succ]
  go_wp2_with (first | (go_at_call 40; go_loud ((with_reducible refine (Atoi_ok _ a0 m0.out v0 o0.out).mono ?_); rintro e w9 ⟨rfl, f9⟩; replace S := S.fr f9; clear f9)) | ((with_reducible refine gate_box rfl ?_); refine aBx S ?_; clear S; intro g9 w9 z9 S) | ((with_reducible refine gate_alloc rfl ?_); refine aAl S ?_; clear S; intro g9 w9 z9 S) | ((with_reducible refine gate_load rfl ?_); first | refine aLd S ?_ | refine aPt S ?_ | refine aL1 S ?_) | ((with_reducible refine gate_st rfl ?_); (first | refine aS1 S ?_ | refine aSt S ?_ | refine aSp S ?_); clear S; intro w9 S))
  rw [rounds_succ]
  go_wp2_with (first | (go_at_call 40; go_loud ((with_reducible refine (Atoi_ok _ a1 m1.out v1 o1.out).mono ?_); rintro e w9 ⟨rfl, f9⟩; replace S := S.fr f9; clear f9)) | ((with_reducible refine gate_box rfl ?_); refine aBx S ?_; clear S; intro g9 w9 z9 S) | ((with_reducible refine gate_alloc rfl ?_); refine aAl S ?_; clear S; intro g9 w9 z9 S) | ((with_reducible refine gate_load rfl ?_); first | refine aLd S ?_ | refine aPt S ?_ | refine aL1 S ?_) | ((with_reducible refine gate_st rfl ?_); (first | refine aS1 S ?_ | refine aSt S ?_ | refine aSp S ?_); clear S; intro w9 S))
  rw [rounds_succ]
  go_wp2_with (first | (go_at_call 40; go_loud ((with_reducible refine (Atoi_ok _ a2 m2.out v2 o2.out).mono ?_); rintro e w9 ⟨rfl, f9⟩; replace S := S.fr f9; clear f9)) | ((with_reducible refine gate_box rfl ?_); refine aBx S ?_; clear S; intro g9 w9 z9 S) | ((with_reducible refine gate_alloc rfl ?_); refine aAl S ?_; clear S; intro g9 w9 z9 S) | ((with_reducible refine gate_load rfl ?_); first | refine aLd S ?_ | refine aPt S ?_ | refine aL1 S ?_) | ((with_reducible refine gate_st rfl ?_); (first | refine aS1 S ?_ | refine aSt S ?_ | refine aSp S ?_); clear S; intro w9 S))
  rw [rounds_succ]
  go_wp2_with (first | (go_at_call 40; go_loud ((with_reducible refine (Atoi_ok _ a3 m3.out v3 o3.out).mono ?_); rintro e w9 ⟨rfl, f9⟩; replace S := S.fr f9; clear f9)) | ((with_reducible refine gate_box rfl ?_); refine aBx S ?_; clear S; intro g9 w9 z9 S) | ((with_reducible refine gate_alloc rfl ?_); refine aAl S ?_; clear S; intro g9 w9 z9 S) | ((with_reducible refine gate_load rfl ?_); first | refine aLd S ?_ | refine aPt S ?_ | refine aL1 S ?_) | ((with_reducible refine gate_st rfl ?_); (first | refine aS1 S ?_ | refine aSt S ?_ | refine aSp S ?_); clear S; intro w9 S))
  rw [rounds_succ]
  go_wp2_with (first | (go_at_call 40; go_loud ((with_reducible refine (Atoi_ok _ a4 m4.out v4 o4.out).mono ?_); rintro e w9 ⟨rfl, f9⟩; replace S := S.fr f9; clear f9)) | ((with_reducible refine gate_box rfl ?_); refine aBx S ?_; clear S; intro g9 w9 z9 S) | ((with_reducible refine gate_alloc rfl ?_); refine aAl S ?_; clear S; intro g9 w9 z9 S) | ((with_reducible refine gate_load rfl ?_); first | refine aLd S ?_ | refine aPt S ?_ | refine aL1 S ?_) | ((with_reducible refine gate_st rfl ?_); (first | refine aS1 S ?_ | refine aSt S ?_ | refine aSp S ?_); clear S; intro w9 S))
  rw [rounds_succ]
  go_wp2_with (first | (go_at_call 40; go_loud ((with_reducible refine (Atoi_ok _ a5 m5.out v5 o5.out).mono ?_); rintro e w9 ⟨rfl, f9⟩; replace S := S.fr f9; clear f9)) | ((with_reducible refine gate_box rfl ?_); refine aBx S ?_; clear S; intro g9 w9 z9 S) | ((with_reducible refine gate_alloc rfl ?_); refine aAl S ?_; clear S; intro g9 w9 z9 S) | ((with_reducible refine gate_load rfl ?_); first | refine aLd S ?_ | refine aPt S ?_ | refine aL1 S ?_) | ((with_reducible refine gate_st rfl ?_); (first | refine aS1 S ?_ | refine aSt S ?_ | refine aSp S ?_); clear S; intro w9 S))
  rw [rounds_succ]
  go_wp2_with (first | (go_at_call 40; go_loud ((with_reducible refine (Atoi_ok _ a6 m6.out v6 o6.out).mono ?_); rintro e w9 ⟨rfl, f9⟩; replace S := S.fr f9; clear f9)) | ((with_reducible refine gate_box rfl ?_); refine aBx S ?_; clear S; intro g9 w9 z9 S) | ((with_reducible refine gate_alloc rfl ?_); refine aAl S ?_; clear S; intro g9 w9 z9 S) | ((with_reducible refine gate_load rfl ?_); first | refine aLd S ?_ | refine aPt S ?_ | refine aL1 S ?_) | ((with_reducible refine gate_st rfl ?_); (first | refine aS1 S ?_ | refine aSt S ?_ | refine aSp S ?_); clear S; intro w9 S))
  replace hk := Lib.hid hk
  replace ht := Lib.hid ht
  rw [rounds_succ]
  go_wp2_with (first | (go_at_call 41; (with_reducible refine (packetOf_c _ v0 v1 v2 v3 v4 v5 v6).mono ?_); rintro e w9 ⟨rfl, f9⟩; replace S := S.fr f9; clear f9) | (go_at_call 16; go_loud ((with_reducible refine (PacketOk_v _ v0 v1 v2 v3 v4 v5 v6 hk.out).mono ?_); rintro e w9 ⟨rfl, f9⟩; replace S := S.fr f9; clear f9)) | (go_at_call 10; go_loud ((with_reducible refine (PacketText_v _ v0 v1 v2 v3 v4 v5 v6 ht.out).mono ?_); rintro e w9 ⟨rfl, f9⟩; replace S := S.fr f9; clear f9)) | ((with_reducible refine gate_box rfl ?_); refine aBx S ?_; clear S; intro g9 w9 z9 S) | ((with_reducible refine gate_alloc rfl ?_); refine aAl S ?_; clear S; intro g9 w9 z9 S) | ((with_reducible refine gate_load rfl ?_); first | refine aLd S ?_ | refine aPt S ?_ | refine aL1 S ?_) | ((with_reducible refine gate_st rfl ?_); (first | refine aS1 S ?_ | refine aSt S ?_ | refine aSp S ?_); clear S; intro w9 S))
  (refine Sep.ret1_1 S rfl rfl memA Tryd.underlying24 rfl ts24 rfl rfl ?_)
  exact ⟨rfl, S.frame⟩
theorem txtV_yes {p : Pk} (h : okPk p = true) : txtV p = txt p := by unfold txtV; rw [h, if_pos rfl]
theorem seven {l : List (List UInt8)} (h : l.length = 7) : ∃ a0 a1 a2 a3 a4 a5 a6, l = [a0, a1, a2, a3, a4, a5, a6] := by
  match l, h with
  | [a0, a1, a2, a3, a4, a5, a6], _ => exact ⟨a0, a1, a2, a3, a4, a5, a6, rfl⟩
theorem atoi_or (l : List UInt8) : (∃ v, Lib.atoiAll l = .ok v) ∨ ∀ v, Lib.atoiAll l ≠ .ok v := by
  cases h : Lib.atoiAll l
  all_goals first
    | exact .inl ⟨_, rfl⟩
    | exact .inr (fun v k => by cases k)
/-- The answer of packetParse. -/
def Parsed (a : Addr) (s : List UInt8) (w : World) : Ending → World → Prop := fun e w' => e = .returned (.tuple #[.agg (rdV s).1.cells.toArray, if (rdV s).2 = true then .nilIface else .iface 120 (.pointer (some a))]) ∧ Fr w w'
theorem Parsed.no {a : Addr} {s : List UInt8} {w : World} (h : ∀ p, okPk p = true → txt p ≠ s) {e : Ending} {w' : World} (k : ErrRet a w e w') : Parsed a s w e w' := by
  unfold Parsed
  rw [rdV_no h]
  exact k
set_option maxHeartbeats 1600000 in
theorem packetParse_c (w : World) (s : List UInt8) {a : Addr} (L : Laid a w) : Calls Tryd.prog 28 #[.string ⟨s.toArray⟩] w (Parsed a s w) := by
  by_cases hl : 24 < s.length
  · exact (parse_long w s hl L).mono fun e w' k => Parsed.no (fun p hp e2 => by have := txt_len (okPk_small hp); rw [e2] at this; omega) k
  have hl2 : s.length ≤ 24 := by omega
  by_cases hn : (cutA [] s).length = 7
  rotate_left
  · exact (parse_len w s hl2 hn L).mono fun e w' k => Parsed.no (fun p hp e2 => hn (by rw [← e2, txt_cut (okPk_small hp)]; rfl)) k
  obtain ⟨a0, a1, a2, a3, a4, a5, a6, hw⟩ := seven hn
  have key : ∀ p, okPk p = true → txt p = s → Lib.atoiAll a0 = .ok p.seq ∧ Lib.atoiAll a1 = .ok p.kind ∧ Lib.atoiAll a2 = .ok p.frm ∧ Lib.atoiAll a3 = .ok p.dst ∧ Lib.atoiAll a4 = .ok p.sum ∧ Lib.atoiAll a5 = .ok p.til ∧ Lib.atoiAll a6 = .ok p.ver := by
    intro p hp e2
    have sm := okPk_small hp
    have hc := txt_cut sm
    rw [e2, hw] at hc
    injection hc with k0 hc
    injection hc with k1 hc
    injection hc with k2 hc
    injection hc with k3 hc
    injection hc with k4 hc
    injection hc with k5 hc
    injection hc with k6 hc
    rw [k0, k1, k2, k3, k4, k5, k6]
    exact ⟨atoi_decS sm.seq.1 sm.seq.2, atoi_decS sm.kind.1 sm.kind.2, atoi_decS sm.frm.1 sm.frm.2, atoi_decS sm.dst.1 sm.dst.2, atoi_decS sm.sum.1 sm.sum.2, atoi_decS sm.til.1 sm.til.2, atoi_decS sm.ver.1 sm.ver.2⟩
  rcases atoi_or a0 with ⟨v0, o0⟩ | b0
  rotate_left
  · exact (parse_bad0 w s hl2 a0 a1 a2 a3 a4 a5 a6 hw  b0 L).mono fun e w' k => Parsed.no (fun p hp e2 => b0 _ (key p hp e2).1) k
  rcases atoi_or a1 with ⟨v1, o1⟩ | b1
  rotate_left
  · exact (parse_bad1 w s hl2 a0 a1 a2 a3 a4 a5 a6 hw v0 o0 b1 L).mono fun e w' k => Parsed.no (fun p hp e2 => b1 _ (key p hp e2).2.1) k
  rcases atoi_or a2 with ⟨v2, o2⟩ | b2
  rotate_left
  · exact (parse_bad2 w s hl2 a0 a1 a2 a3 a4 a5 a6 hw v0 o0 v1 o1 b2 L).mono fun e w' k => Parsed.no (fun p hp e2 => b2 _ (key p hp e2).2.2.1) k
  rcases atoi_or a3 with ⟨v3, o3⟩ | b3
  rotate_left
  · exact (parse_bad3 w s hl2 a0 a1 a2 a3 a4 a5 a6 hw v0 o0 v1 o1 v2 o2 b3 L).mono fun e w' k => Parsed.no (fun p hp e2 => b3 _ (key p hp e2).2.2.2.1) k
  rcases atoi_or a4 with ⟨v4, o4⟩ | b4
  rotate_left
  · exact (parse_bad4 w s hl2 a0 a1 a2 a3 a4 a5 a6 hw v0 o0 v1 o1 v2 o2 v3 o3 b4 L).mono fun e w' k => Parsed.no (fun p hp e2 => b4 _ (key p hp e2).2.2.2.2.1) k
  rcases atoi_or a5 with ⟨v5, o5⟩ | b5
  rotate_left
  · exact (parse_bad5 w s hl2 a0 a1 a2 a3 a4 a5 a6 hw v0 o0 v1 o1 v2 o2 v3 o3 v4 o4 b5 L).mono fun e w' k => Parsed.no (fun p hp e2 => b5 _ (key p hp e2).2.2.2.2.2.1) k
  rcases atoi_or a6 with ⟨v6, o6⟩ | b6
  rotate_left
  · exact (parse_bad6 w s hl2 a0 a1 a2 a3 a4 a5 a6 hw v0 o0 v1 o1 v2 o2 v3 o3 v4 o4 v5 o5 b6 L).mono fun e w' k => Parsed.no (fun p hp e2 => b6 _ (key p hp e2).2.2.2.2.2.2) k
  have same : ∀ p, okPk p = true → txt p = s → p = ⟨v0, v1, v2, v3, v4, v5, v6⟩ := by
    intro p hp e2
    obtain ⟨k0, k1, k2, k3, k4, k5, k6⟩ := key p hp e2
    rw [o0] at k0
    rw [o1] at k1
    rw [o2] at k2
    rw [o3] at k3
    rw [o4] at k4
    rw [o5] at k5
    rw [o6] at k6
    cases p
    simp_all
  cases hk : okPk ⟨v0, v1, v2, v3, v4, v5, v6⟩ with
  | false =>
    exact (parse_no1 w s hl2 a0 a1 a2 a3 a4 a5 a6 hw v0 o0 v1 o1 v2 o2 v3 o3 v4 o4 v5 o5 v6 o6 hk L).mono fun e w' k => Parsed.no (fun p hp e2 => by have := same p hp e2; subst this; rw [hk] at hp; cases hp) k
  | true =>
    by_cases ht : txtV ⟨v0, v1, v2, v3, v4, v5, v6⟩ = s
    · refine (parse_yes w s hl2 a0 a1 a2 a3 a4 a5 a6 hw v0 o0 v1 o1 v2 o2 v3 o3 v4 o4 v5 o5 v6 o6 hk ht L).mono fun e w' k => ?_
      unfold Parsed
      rw [← ht, txtV_yes hk, rdV_yes hk]
      exact k
    · exact (parse_no2 w s hl2 a0 a1 a2 a3 a4 a5 a6 hw v0 o0 v1 o1 v2 o2 v3 o3 v4 o4 v5 o5 v6 o6 hk _ rfl ht L).mono fun e w' k => Parsed.no (fun p hp e2 => by have := same p hp e2; subst this; exact ht ((txtV_yes hp).trans e2)) k
end Go.Proofs.YtphojlkljlnfjaaDoor
