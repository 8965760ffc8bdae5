/- Copies of slices and of states in new memory: the program's fresh and stateCopy, the reference's l3Copy. -/
import Derived.Test.YtapdcgjccckjeaaOwn2
import Derived.Test.YtapdcgjccckjeaaStHelp
import Derived.Test.YtapdcgjccckjeaaInts
import Derived.Test.YtapdcgjccckjeaaBools
namespace Go.Proofs.Ytapdcgjccckjeaa
set_option maxRecDepth 100000
set_option linter.unusedVariables false
set_option linter.unusedSimpArgs false
open Go.RowKit
set_option maxHeartbeats 1600000 in
theorem freshI_c (w : World) (v : Value) (xs : List Int) (h1 : tInt.row w v xs) (hm : xs.length ≤ 2097152) : Calls Try.prog 127 #[v] w (RetRow tInt 3 xs w) := by
  obtain ⟨A1, c1, rfl⟩ := h1.val
  have S := Sep.start w
  go_enter Try.func127, Try.ntmps127
  go_wp2_with (first
    | ((with_reducible refine gate_dst (N := 6) rfl ?_); refine aMk (d := tInt) (0 : Int) S (fun _ => ⟨rfl, rfl⟩) hm ?_; clear S; intro g6 w9 z9 S)
    | ((with_reducible refine gate_dst (N := 9) rfl ?_); refine aCp tInt_plain S delA (h1.fr S.frame) (by simp) ?_; clear S; intro w9 S))
  go_ret
  exact S.retRow List.mem_cons_self
set_option maxHeartbeats 1600000 in
theorem freshB_c (w : World) (v : Value) (xs : List Bool) (h1 : tBool.row w v xs) (hm : xs.length ≤ 2097152) : Calls Try.prog 126 #[v] w (RetRow tBool 4 xs w) := by
  obtain ⟨A1, c1, rfl⟩ := h1.val
  have S := Sep.start w
  go_enter Try.func126, Try.ntmps126
  go_wp2_with (first
    | ((with_reducible refine gate_dst (N := 6) rfl ?_); refine aMk (d := tBool) false S (fun _ => ⟨rfl, rfl⟩) hm ?_; clear S; intro g6 w9 z9 S)
    | ((with_reducible refine gate_dst (N := 9) rfl ?_); refine aCp tBool_plain S delA (h1.fr S.frame) (by simp) ?_; clear S; intro w9 S))
  go_ret
  exact S.retRow List.mem_cons_self
set_option maxHeartbeats 1600000 in
theorem freshP_c (w : World) (v : Value) (xs : List Pk) (h1 : tPk.row w v xs) (hm : xs.length ≤ 2097152) : Calls Try.prog 125 #[v] w (RetRow tPk 88 xs w) := by
  obtain ⟨A1, c1, rfl⟩ := h1.val
  have S := Sep.start w
  go_enter Try.func125, Try.ntmps125
  go_wp2_with (first
    | ((with_reducible refine gate_dst (N := 6) rfl ?_); refine aMk (d := tPk) zPk S (fun _ => ⟨⟨rfl, zPk_ok⟩, rfl⟩) hm ?_; clear S; intro g6 w9 z9 S)
    | ((with_reducible refine gate_dst (N := 9) rfl ?_); refine aCp tPk_plain S delA (h1.fr S.frame) (by simp) ?_; clear S; intro w9 S))
  go_ret
  exact S.retRow List.mem_cons_self
def smallSt (s : St) : Prop := s.sent.length ≤ 2097152 ∧ s.live.length ≤ 2097152 ∧ s.back.length ≤ 2097152 ∧ s.got.length ≤ 2097152
set_option maxHeartbeats 3200000 in
theorem stateCopy_c (w : World) (s : St) (c1 : List Value) (h1 : tSt.rd w s c1) (hb : smallSt s) : Calls Try.prog 95 #[.agg c1.toArray] w (RetOwn tSt s w) := by
  obtain ⟨v1, v2, v3, v4, rfl, h11, h12, h13, h14, h15⟩ := h1
  obtain ⟨b1, b2, b3, b4⟩ := hb
  have S := Sep.start w
  go_enter Try.func95, Try.ntmps95
  go_wp2_with (first | ((with_reducible refine gate_dst (N := 1) rfl ?_); refine aBx S ?_; clear S; intro gP w9 z9 S) | ((with_reducible refine gate_dst (N := 2) rfl ?_); refine aAl S ?_; clear S; intro gR w9 z9 S))
  have S0 := (Sep.only1 (a1 := aBox gP _ _ _) S delA)
  refine wp_region_noPanic ?_
  refine wp_region_held_drew (S := Sep _ _ _) (by kernel_rfl) S0.drew (fun _ => ?_)
  replace S := S.drew
  clear S0
  refine tk 0 ?_
  (try simp only [Act.put, List.setIfInBounds_toArray, List.set_cons_zero, List.set_cons_succ])
  refine tk 1 ?_
  (try simp only [Act.put, List.setIfInBounds_toArray, List.set_cons_zero, List.set_cons_succ])
  refine tk 2 ?_
  (try simp only [Act.put, List.setIfInBounds_toArray, List.set_cons_zero, List.set_cons_succ])
  refine tk 3 ?_
  (try simp only [Act.put, List.setIfInBounds_toArray, List.set_cons_zero, List.set_cons_succ])
  refine tk 4 ?_
  (try simp only [Act.put, List.setIfInBounds_toArray, List.set_cons_zero, List.set_cons_succ])
  refine tk 5 ?_
  (try simp only [Act.put, List.setIfInBounds_toArray, List.set_cons_zero, List.set_cons_succ])
  refine tk 6 ?_
  (try simp only [Act.put, List.setIfInBounds_toArray, List.set_cons_zero, List.set_cons_succ])
  refine tk 7 ?_
  (try simp only [Act.put, List.setIfInBounds_toArray, List.set_cons_zero, List.set_cons_succ])
  refine tk 9 ?_
  (try simp only [Act.put, List.setIfInBounds_toArray, List.set_cons_zero, List.set_cons_succ])
  refine tk 10 ?_
  (try simp only [Act.put, List.setIfInBounds_toArray, List.set_cons_zero, List.set_cons_succ])
  refine tk 12 ?_
  (try simp only [Act.put, List.setIfInBounds_toArray, List.set_cons_zero, List.set_cons_succ])
  refine tk 13 ?_
  (try simp only [Act.put, List.setIfInBounds_toArray, List.set_cons_zero, List.set_cons_succ])
  refine tk 15 ?_
  (try simp only [Act.put, List.setIfInBounds_toArray, List.set_cons_zero, List.set_cons_succ])
  refine tk 16 ?_
  (try simp only [Act.put, List.setIfInBounds_toArray, List.set_cons_zero, List.set_cons_succ])
  refine rdy1 8 (fun K hK => ?_)
  go_simp; (skip; go_at_call 125; (with_reducible refine (freshP_c _ _ s.sent (h11.fr S.frame) b1).mono ?_); rintro e w9 ⟨v9, F9, rfl, h9, n9, b9, f9⟩; obtain ⟨A9, c9, rfl⟩ := h9.row.val; replace S := S.new (aRow tPk 88 _ (.slice A9 _ c9) F9) h9 n9 b9 f9; clear h9 n9 b9 f9)
  (first | refine hK.out _ _ (S.sub subA) (fun _ => ?_) | (go_wp2_with fail; refine hK.out _ _ (S.sub subA) (fun _ => ?_)))
  clear hK K
  (try simp only [Act.put, List.setIfInBounds_toArray, List.set_cons_zero, List.set_cons_succ])
  refine rdy1 11 (fun K hK => ?_)
  go_simp; (skip; go_at_call 126; (with_reducible refine (freshB_c _ _ s.live (h12.fr S.frame) b2).mono ?_); rintro e w9 ⟨v9, F9, rfl, h9, n9, b9, f9⟩; obtain ⟨A9, c9, rfl⟩ := h9.row.val; replace S := S.new (aRow tBool 4 _ (.slice A9 _ c9) F9) h9 n9 b9 f9; clear h9 n9 b9 f9)
  (first | refine hK.out _ _ (S.sub subA) (fun _ => ?_) | (go_wp2_with fail; refine hK.out _ _ (S.sub subA) (fun _ => ?_)))
  clear hK K
  (try simp only [Act.put, List.setIfInBounds_toArray, List.set_cons_zero, List.set_cons_succ])
  refine rdy1 14 (fun K hK => ?_)
  go_simp; (skip; go_at_call 126; (with_reducible refine (freshB_c _ _ s.back (h13.fr S.frame) b3).mono ?_); rintro e w9 ⟨v9, F9, rfl, h9, n9, b9, f9⟩; obtain ⟨A9, c9, rfl⟩ := h9.row.val; replace S := S.new (aRow tBool 4 _ (.slice A9 _ c9) F9) h9 n9 b9 f9; clear h9 n9 b9 f9)
  (first | refine hK.out _ _ (S.sub subA) (fun _ => ?_) | (go_wp2_with fail; refine hK.out _ _ (S.sub subA) (fun _ => ?_)))
  clear hK K
  (try simp only [Act.put, List.setIfInBounds_toArray, List.set_cons_zero, List.set_cons_succ])
  refine rdy1 17 (fun K hK => ?_)
  go_simp; (skip; go_at_call 127; (with_reducible refine (freshI_c _ _ s.got (h14.fr S.frame) b4).mono ?_); rintro e w9 ⟨v9, F9, rfl, h9, n9, b9, f9⟩; obtain ⟨A9, c9, rfl⟩ := h9.row.val; replace S := S.new (aRow tInt 3 _ (.slice A9 _ c9) F9) h9 n9 b9 f9; clear h9 n9 b9 f9)
  (first | refine hK.out _ _ (S.sub subA) (fun _ => ?_) | (go_wp2_with fail; refine hK.out _ _ (S.sub subA) (fun _ => ?_)))
  clear hK K
  (try simp only [Act.put, List.setIfInBounds_toArray, List.set_cons_zero, List.set_cons_succ])
  refine tk 18 ?_
  (try simp only [Act.put, List.setIfInBounds_toArray, List.set_cons_zero, List.set_cons_succ])
  refine rdy1 19 (fun K hK => ?_)
  (first | refine rgS1 S ?_ | refine rgSt S ?_ | refine rgSp S ?_); clear S; intro w9 S
  (first | refine hK.out _ _ (S.sub subA) (fun _ => ?_) | (go_wp2_with fail; refine hK.out _ _ (S.sub subA) (fun _ => ?_)))
  clear hK K
  (try simp only [Act.put, List.setIfInBounds_toArray, List.set_cons_zero, List.set_cons_succ])
  refine wpAnyH_done (by kernel_rfl) ?_ _
  refine NoPanic.normal ?_
  go_wp2
  have S' := Sep.shutSt (x := s.way) (y := s.vsn) (z := s.want) (Sep.only4 (a1 := aRow tPk _ s.sent _ _) (a2 := aRow tBool _ s.live _ _) (a3 := aRow tBool _ s.back _ _) (a4 := aRow tInt _ s.got _ _) S delA delA delA delA) h15
  (refine Sep.ret1 S rfl rfl memA Try.underlying30 rfl ts30 rfl ?_)
  exact S'.retOwn List.mem_cons_self
set_option maxHeartbeats 3200000 in
theorem l3Copy_c (w : World) (s : St) (c1 : List Value) (h1 : tSt.rd w s c1) (hb : smallSt s) : Calls Try.prog 94 #[.agg c1.toArray] w (RetOwn tSt s w) := by
  obtain ⟨v1, v2, v3, v4, rfl, h11, h12, h13, h14, h15⟩ := h1
  obtain ⟨A1, c1, rfl⟩ := h11.val
  obtain ⟨A2, c2, rfl⟩ := h12.val
  obtain ⟨A3, c3, rfl⟩ := h13.val
  obtain ⟨A4, c4, rfl⟩ := h14.val
  obtain ⟨b1, b2, b3, b4⟩ := hb
  have S := Sep.start w
  go_enter Try.func94, Try.ntmps94
  go_wp2_with (first
    | ((with_reducible refine gate_dst (N := 1) rfl ?_); refine aBx S ?_; clear S; intro gP w9 z9 S)
    | ((with_reducible refine gate_dst (N := 2) rfl ?_); refine aAl S ?_; clear S; intro gR w9 z9 S)
    | ((with_reducible refine gate_dst (N := 3) rfl ?_); refine aLit0 tPk (e := 88) S ?_; clear S; intro g3 w9 z9 S)
    | ((with_reducible refine gate_dst (N := 6) rfl ?_); refine aApR tPk_plain S delA (h11.fr S.frame) (.inr ⟨_, _, _, rfl⟩) (by simpa using b1) ?_; clear S; intro A6 c6 F6 w9 S)
    | ((with_reducible refine gate_dst (N := 8) rfl ?_); refine aLit0 tBool (e := 4) S ?_; clear S; intro g8 w9 z9 S)
    | ((with_reducible refine gate_dst (N := 11) rfl ?_); refine aApR tBool_plain S delA (h12.fr S.frame) (.inr ⟨_, _, _, rfl⟩) (by simpa using b2) ?_; clear S; intro A11 c11 F11 w9 S)
    | ((with_reducible refine gate_dst (N := 13) rfl ?_); refine aLit0 tBool (e := 4) S ?_; clear S; intro g13 w9 z9 S)
    | ((with_reducible refine gate_dst (N := 16) rfl ?_); refine aApR tBool_plain S delA (h13.fr S.frame) (.inr ⟨_, _, _, rfl⟩) (by simpa using b3) ?_; clear S; intro A16 c16 F16 w9 S)
    | ((with_reducible refine gate_dst (N := 18) rfl ?_); refine aLit0 tInt (e := 3) S ?_; clear S; intro g18 w9 z9 S)
    | ((with_reducible refine gate_dst (N := 21) rfl ?_); refine aApR tInt_plain S delA (h14.fr S.frame) (.inr ⟨_, _, _, rfl⟩) (by simpa using b4) ?_; clear S; intro A21 c21 F21 w9 S)
    | ((with_reducible refine gate_box rfl ?_); refine aBx S ?_; clear S; intro g9 w9 z9 S) | ((with_reducible refine gate_alloc rfl ?_); refine aAl S ?_; clear S; intro g9 w9 z9 S) | ((with_reducible refine gate_load rfl ?_); first | refine aLd S ?_ | refine aPt S ?_ | refine aL1 S ?_) | ((with_reducible refine gate_st rfl ?_); (first | refine aS1 S ?_ | refine aSt S ?_ | refine aSp S ?_); clear S; intro w9 S))
  have S' := Sep.shutSt (x := s.way) (y := s.vsn) (z := s.want) (Sep.only4 (a1 := aRow tPk _ s.sent _ _) (a2 := aRow tBool _ s.live _ _) (a3 := aRow tBool _ s.back _ _) (a4 := aRow tInt _ s.got _ _) S delA delA delA delA) h15
  (refine Sep.ret1 S rfl rfl memA Try.underlying30 rfl ts30 rfl ?_)
  exact S'.retOwn List.mem_cons_self
end Go.Proofs.Ytapdcgjccckjeaa
