/- The reference's ChainOk. -/
import Derived.Test.YtapdcgjccckjeaaChOk
namespace Go.Proofs.Ytapdcgjccckjeaa
set_option maxRecDepth 100000
set_option linter.unusedVariables false
set_option linter.unusedSimpArgs false
open Go.RowKit
set_option maxHeartbeats 6400000 in
theorem sChainOk_c (w : World) (c : Ch) (c1 : List Value) (h1 : tCh.rd w c c1) : Calls Try.prog 33 #[.agg c1.toArray] w (Ret (.bool (okCh c)) w) := by
  obtain ⟨i, b, s, ps, ks⟩ := c
  obtain ⟨b1, b2, s1, s2, s3, s4, v1, v2, rfl, h11, h12, h13, h14, h15⟩ := h1
  dsimp only at h11 h12 h13 h14 h15 ⊢
  obtain ⟨A1, n1, rfl⟩ := h13.val
  obtain ⟨A2, n2, rfl⟩ := h14.val
  have hp := h13.le
  have hk := h14.le
  clear h15
  have S := Sep.start w
  cases hi : decide (1 ≤ i ∧ i ≤ 2) with
  | false =>
    have R := Lib.hid (show okCh ⟨i, b, s, ps, ks⟩ = false by unfold okCh; dsimp only; rw [hi]; rfl)
    have HI := Lib.hid hi
    clear hi
    go_enter Try.func33, Try.ntmps33
    go_wp2_with (first
      | (go_at_call 61; (with_reducible refine (l6In_e _ i 1 2 HI.out).mono ?_); rintro e w9 ⟨rfl, rfl⟩)
      | ((with_reducible refine gate_box rfl ?_); refine aBx S ?_; clear S; intro g9 w9 z9 S) | ((with_reducible refine gate_alloc rfl ?_); refine aAl S ?_; clear S; intro g9 w9 z9 S) | ((with_reducible refine gate_load rfl ?_); first | refine aLd S ?_ | refine aPt S ?_ | refine aL1 S ?_) | ((with_reducible refine gate_st rfl ?_); (first | refine aS1 S ?_ | refine aSt S ?_ | refine aSp S ?_); clear S; intro w9 S))
    go_ret
    exact ⟨ret_bool R.out.symm, S.frame⟩
  | true =>
  have HI := Lib.hid hi
  cases o1 : okBk b with
  | false =>
    have R := Lib.hid (show okCh ⟨i, b, s, ps, ks⟩ = false by unfold okCh; dsimp only; rw [o1, Bool.false_and, Bool.and_false])
    have O1 := Lib.hid o1
    clear o1 hi
    go_enter Try.func33, Try.ntmps33
    go_wp2_with (first
      | (go_at_call 61; (with_reducible refine (l6In_e _ i 1 2 HI.out).mono ?_); rintro e w9 ⟨rfl, rfl⟩)
      | (go_at_call 87; (with_reducible refine (sBankOk_r _ b _ (tBk.fr S.frame h11) O1.out).mono ?_); rintro e w9 ⟨rfl, f9⟩; replace S := S.fr f9; clear f9)
      | ((with_reducible refine gate_box rfl ?_); refine aBx S ?_; clear S; intro g9 w9 z9 S) | ((with_reducible refine gate_alloc rfl ?_); refine aAl S ?_; clear S; intro g9 w9 z9 S) | ((with_reducible refine gate_load rfl ?_); first | refine aLd S ?_ | refine aPt S ?_ | refine aL1 S ?_) | ((with_reducible refine gate_st rfl ?_); (first | refine aS1 S ?_ | refine aSt S ?_ | refine aSp S ?_); clear S; intro w9 S))
    go_ret
    exact ⟨ret_bool R.out.symm, S.frame⟩
  | true =>
  have O1 := Lib.hid o1
  cases o2 : okSt s with
  | false =>
    have R := Lib.hid (show okCh ⟨i, b, s, ps, ks⟩ = false by unfold okCh; dsimp only; rw [o2, Bool.false_and, Bool.and_false, Bool.and_false])
    have O2 := Lib.hid o2
    clear o1 o2 hi
    go_enter Try.func33, Try.ntmps33
    go_wp2_with (first
      | (go_at_call 61; (with_reducible refine (l6In_e _ i 1 2 HI.out).mono ?_); rintro e w9 ⟨rfl, rfl⟩)
      | (go_at_call 87; (with_reducible refine (sBankOk_r _ b _ (tBk.fr S.frame h11) O1.out).mono ?_); rintro e w9 ⟨rfl, f9⟩; replace S := S.fr f9; clear f9)
      | (go_at_call 88; (with_reducible refine (sStateOk_r _ s _ (tSt.fr S.frame h12) O2.out).mono ?_); rintro e w9 ⟨rfl, f9⟩; replace S := S.fr f9; clear f9)
      | ((with_reducible refine gate_box rfl ?_); refine aBx S ?_; clear S; intro g9 w9 z9 S) | ((with_reducible refine gate_alloc rfl ?_); refine aAl S ?_; clear S; intro g9 w9 z9 S) | ((with_reducible refine gate_load rfl ?_); first | refine aLd S ?_ | refine aPt S ?_ | refine aL1 S ?_) | ((with_reducible refine gate_st rfl ?_); (first | refine aS1 S ?_ | refine aSt S ?_ | refine aSp S ?_); clear S; intro w9 S))
    go_ret
    exact ⟨ret_bool R.out.symm, S.frame⟩
  | true =>
  have O2 := Lib.hid o2
  by_cases hp9 : ps.length ≤ 90
  case neg =>
    have R := Lib.hid (show okCh ⟨i, b, s, ps, ks⟩ = false by unfold okCh; dsimp only; rw [decide_eq_false hp9, Bool.false_and, Bool.and_false, Bool.and_false, Bool.and_false])
    have d1 : decide (90 < (ps.length : Int)) = true := decide_eq_true (by omega)
    clear o1 o2 hi
    go_enter Try.func33, Try.ntmps33
    go_wp2_with (first
      | (go_at_call 61; (with_reducible refine (l6In_e _ i 1 2 HI.out).mono ?_); rintro e w9 ⟨rfl, rfl⟩)
      | (go_at_call 87; (with_reducible refine (sBankOk_r _ b _ (tBk.fr S.frame h11) O1.out).mono ?_); rintro e w9 ⟨rfl, f9⟩; replace S := S.fr f9; clear f9)
      | (go_at_call 88; (with_reducible refine (sStateOk_r _ s _ (tSt.fr S.frame h12) O2.out).mono ?_); rintro e w9 ⟨rfl, f9⟩; replace S := S.fr f9; clear f9)
      | ((with_reducible refine gate_box rfl ?_); refine aBx S ?_; clear S; intro g9 w9 z9 S) | ((with_reducible refine gate_alloc rfl ?_); refine aAl S ?_; clear S; intro g9 w9 z9 S) | ((with_reducible refine gate_load rfl ?_); first | refine aLd S ?_ | refine aPt S ?_ | refine aL1 S ?_) | ((with_reducible refine gate_st rfl ?_); (first | refine aS1 S ?_ | refine aSt S ?_ | refine aSp S ?_); clear S; intro w9 S))
    go_ret
    exact ⟨ret_bool R.out.symm, S.frame⟩
  have R0 := Lib.hid (show okCh ⟨i, b, s, ps, ks⟩ = (ps.all okSt && knOk ks) by unfold okCh; dsimp only; rw [HI.out, o1, o2, decide_eq_true hp9, Bool.true_and, Bool.true_and, Bool.true_and, Bool.true_and])
  have d1 : decide (90 < (ps.length : Int)) = false := decide_eq_false (by omega)
  clear o1 o2 hi
  go_enter Try.func33, Try.ntmps33
  go_wp2_with (first
    | ((with_reducible refine gate_dst (N := 1) rfl ?_); refine aBx S ?_; clear S; intro gC w9 z9 S)
    | (go_at_call 61; (with_reducible refine (l6In_e _ i 1 2 HI.out).mono ?_); rintro e w9 ⟨rfl, rfl⟩)
    | (go_at_call 87; (with_reducible refine (sBankOk_r _ b _ (tBk.fr S.frame h11) O1.out).mono ?_); rintro e w9 ⟨rfl, f9⟩; replace S := S.fr f9; clear f9)
    | (go_at_call 88; (with_reducible refine (sStateOk_r _ s _ (tSt.fr S.frame h12) O2.out).mono ?_); rintro e w9 ⟨rfl, f9⟩; replace S := S.fr f9; clear f9)
    | ((with_reducible refine gate_box rfl ?_); refine aBx S ?_; clear S; intro g9 w9 z9 S) | ((with_reducible refine gate_alloc rfl ?_); refine aAl S ?_; clear S; intro g9 w9 z9 S) | ((with_reducible refine gate_load rfl ?_); first | refine aLd S ?_ | refine aPt S ?_ | refine aL1 S ?_) | ((with_reducible refine gate_st rfl ?_); (first | refine aS1 S ?_ | refine aSt S ?_ | refine aSp S ?_); clear S; intro w9 S))
  go_loopw [3] (fun i wr => ∃ k : Nat, k ≤ ps.length ∧ i = .int .i64 k ∧ (ps.take k).all okSt = true ∧ Sep [] w [aBox gC 33 13 _] wr) (fun i _ => ps.length - (intOf i).toNat)
  case atStart => exact ⟨0, Nat.zero_le _, rfl, by simp, S⟩
  case round =>
    clear S
    obtain ⟨k, hk1, rfl, hall, S⟩ := hrel
    have HA := Lib.hid hall
    clear hall
    by_cases hlt : k < ps.length
    · obtain ⟨ad1, cs1, rfl, r1, g1⟩ := cellsAt_of_row h13 k hlt
      have G1 := Lib.hid (fun (W : World) (f : Fr w W) => g1.fr f)
      have Q1 := Lib.hid (fun (W : World) (f : Fr w W) => tSt.fr f r1)
      have N1 := Lib.hid (show cs1.length = 7 from tSt.len r1)
      have HL := Lib.hid hlt
      have p0 : (0 : Int) ≤ (k : Int) := Int.natCast_nonneg _
      have p1 : (k : Int) < (ps.length : Int) := by omega
      clear g1 r1
      cases o1 : okSt (ps[k]'HL.out) with
      | false =>
        have R := Lib.hid (show (ps.all okSt && knOk ks) = false by rw [past_bad HL.out o1]; rfl)
        have O3 := Lib.hid o1
        clear o1
        go_wp2_with (first
          | ((with_reducible refine gate_dst (N := 38) rfl ?_); refine aRw (G1.out _ S.frame) ?_ (hn := N1.out))
          | (go_at_call 88; (with_reducible refine (sStateOk_r _ _ _ (Q1.out _ S.frame) O3.out).mono ?_); rintro e w9 ⟨rfl, f9⟩; replace S := S.fr f9; clear f9)
          | ((with_reducible refine gate_box rfl ?_); refine aBx S ?_; clear S; intro g9 w9 z9 S) | ((with_reducible refine gate_alloc rfl ?_); refine aAl S ?_; clear S; intro g9 w9 z9 S) | ((with_reducible refine gate_load rfl ?_); first | refine aLd S ?_ | refine aPt S ?_ | refine aL1 S ?_) | ((with_reducible refine gate_st rfl ?_); (first | refine aS1 S ?_ | refine aSt S ?_ | refine aSp S ?_); clear S; intro w9 S))
        go_ret
        exact ⟨ret_bool (by rw [R0.out, R.out]), S.frame⟩
      | true =>
        have R := Lib.hid (past_succ HL.out HA.out o1)
        have O3 := Lib.hid o1
        clear o1
        go_wp2_with (first
          | ((with_reducible refine gate_dst (N := 38) rfl ?_); refine aRw (G1.out _ S.frame) ?_ (hn := N1.out))
          | (go_at_call 88; (with_reducible refine (sStateOk_r _ _ _ (Q1.out _ S.frame) O3.out).mono ?_); rintro e w9 ⟨rfl, f9⟩; replace S := S.fr f9; clear f9)
          | ((with_reducible refine gate_box rfl ?_); refine aBx S ?_; clear S; intro g9 w9 z9 S) | ((with_reducible refine gate_alloc rfl ?_); refine aAl S ?_; clear S; intro g9 w9 z9 S) | ((with_reducible refine gate_load rfl ?_); first | refine aLd S ?_ | refine aPt S ?_ | refine aL1 S ?_) | ((with_reducible refine gate_st rfl ?_); (first | refine aS1 S ?_ | refine aSt S ?_ | refine aSp S ?_); clear S; intro w9 S))
        go_roundw
        case rel => exact ⟨k + 1, by omega, by go_num, R.out, S⟩
        case measure => simp [intOf]; omega
    · obtain rfl : k = ps.length := by omega
      rw [List.take_length] at HA
      have R1 := Lib.hid (show okCh _ = knOk ks from R0.out.trans (by rw [HA.out]; rfl))
      clear R0 HA
      go_wp2_with (first | ((with_reducible refine gate_box rfl ?_); refine aBx S ?_; clear S; intro g9 w9 z9 S) | ((with_reducible refine gate_alloc rfl ?_); refine aAl S ?_; clear S; intro g9 w9 z9 S) | ((with_reducible refine gate_load rfl ?_); first | refine aLd S ?_ | refine aPt S ?_ | refine aL1 S ?_) | ((with_reducible refine gate_st rfl ?_); (first | refine aS1 S ?_ | refine aSt S ?_ | refine aSp S ?_); clear S; intro w9 S))
      go_loopw [4] (fun i wr => ∃ k : Nat, k ≤ ks.length ∧ i = .int .i64 k ∧ (List.range k).all (kAt ks) = true ∧ Sep [] w [aBox gC 33 13 _] wr) (fun i _ => ks.length - (intOf i).toNat)
      case atStart => exact ⟨0, Nat.zero_le _, rfl, rfl, S⟩
      case round =>
        clear S
        obtain ⟨k, hk1, rfl, hall, S⟩ := hrel
        have HA := Lib.hid hall
        have PP := Lib.hid (prevK_pos hk1 hall)
        clear hall
        by_cases hlt : k < ks.length
        · obtain ⟨ad1, rfl, g1⟩ := row_int_at h14 k hlt
          have G1 := Lib.hid g1
          have KA := Lib.hid (kAt_eq hlt)
          have KB := Lib.hid (fun h => knOk_bad hlt h)
          obtain ⟨x, hx⟩ : ∃ x, ks[k] = x := ⟨_, rfl⟩
          rw [hx] at G1 KA
          clear hx
          have p1 : (k : Int) < (ks.length : Int) := by omega
          rcases k with _ | m
          · have G0 := G1
            have PV := Lib.hid (show prevK ks 0 = 0 from rfl)
            cases x1 : decide (1 ≤ x ∧ x ≤ 90) with
            | false =>
              have X1 := Lib.hid x1
              have R := Lib.hid (show knOk ks = false from KB.out (by rw [KA.out, PV.out]; simp at x1 ⊢; omega))
              clear x1 g1
              go_wp2_with (first | ((with_reducible refine gate_box rfl ?_); refine aBx S ?_; clear S; intro g9 w9 z9 S) | ((with_reducible refine gate_alloc rfl ?_); refine aAl S ?_; clear S; intro g9 w9 z9 S) | ((with_reducible refine gate_load rfl ?_); first | refine aLd S ?_ | refine aPt S ?_ | refine aL1 S ?_) | ((with_reducible refine gate_st rfl ?_); (first | refine aS1 S ?_ | refine aSt S ?_ | refine aSp S ?_); clear S; intro w9 S))
              have S0 := S
              refine wp_region_noPanic ?_
              refine wp_region_held_drew (S := Sep _ _ _) (by kernel_rfl) S0.drew (fun _ => ?_)
              replace S := S.drew
              clear S0
              refine tk 0 ?_
              (try simp only [Act.put, List.setIfInBounds_toArray, List.set_cons_zero, List.set_cons_succ])
              refine tk 1 ?_
              (try simp only [Act.put, List.setIfInBounds_toArray, List.set_cons_zero, List.set_cons_succ])
              refine tk 2 ?_
              (try simp only [Act.put, List.setIfInBounds_toArray, List.set_cons_zero, List.set_cons_succ])
              refine tk 3 ?_
              (try simp only [Act.put, List.setIfInBounds_toArray, List.set_cons_zero, List.set_cons_succ])
              refine tk 4 ?_ (hy := by exact yRc (fun w' h => h.frame.cell G1.out))
              (try simp only [Act.put, List.setIfInBounds_toArray, List.set_cons_zero, List.set_cons_succ])
              refine rdy1 5 (fun K hK => ?_)
              go_simp; (skip; go_at_call 61; (with_reducible refine (l6In_e _ x 1 90 X1.out).mono ?_); rintro e w9 ⟨rfl, rfl⟩)
              (first | refine hK.out _ _ (S.sub subA) (fun _ => ?_) | (go_wp2_with fail; refine hK.out _ _ (S.sub subA) (fun _ => ?_)))
              clear hK K
              (try simp only [Act.put, List.setIfInBounds_toArray, List.set_cons_zero, List.set_cons_succ])
              refine tk 6 ?_
              (try simp only [Act.put, List.setIfInBounds_toArray, List.set_cons_zero, List.set_cons_succ])
              refine tk 7 ?_
              (try simp only [Act.put, List.setIfInBounds_toArray, List.set_cons_zero, List.set_cons_succ])
              refine tk 8 ?_
              (try simp only [Act.put, List.setIfInBounds_toArray, List.set_cons_zero, List.set_cons_succ])
              refine tk 9 ?_
              (try simp only [Act.put, List.setIfInBounds_toArray, List.set_cons_zero, List.set_cons_succ])
              refine tk 10 ?_
              (try simp only [Act.put, List.setIfInBounds_toArray, List.set_cons_zero, List.set_cons_succ])
              refine tk 11 ?_
              (try simp only [Act.put, List.setIfInBounds_toArray, List.set_cons_zero, List.set_cons_succ])
              refine tk 12 ?_
              (try simp only [Act.put, List.setIfInBounds_toArray, List.set_cons_zero, List.set_cons_succ])
              refine tk 13 ?_
              (try simp only [Act.put, List.setIfInBounds_toArray, List.set_cons_zero, List.set_cons_succ])
              refine tk 14 ?_
              (try simp only [Act.put, List.setIfInBounds_toArray, List.set_cons_zero, List.set_cons_succ])
              refine tk 15 ?_
              (try simp only [Act.put, List.setIfInBounds_toArray, List.set_cons_zero, List.set_cons_succ])
              refine tk 16 ?_ (hy := by first | exact yRc (fun w' h => h.frame.cell G0.out) | (refine Or.inr ⟨by rfl, ?_⟩; rfl))
              (try simp only [Act.put, List.setIfInBounds_toArray, List.set_cons_zero, List.set_cons_succ])
              refine tk 17 ?_
              (try simp only [Act.put, List.setIfInBounds_toArray, List.set_cons_zero, List.set_cons_succ])
              refine tk 18 ?_
              (try simp only [Act.put, List.setIfInBounds_toArray, List.set_cons_zero, List.set_cons_succ])
              refine tk 19 ?_
              (try simp only [Act.put, List.setIfInBounds_toArray, List.set_cons_zero, List.set_cons_succ])
              refine tk 20 ?_
              (try simp only [Act.put, List.setIfInBounds_toArray, List.set_cons_zero, List.set_cons_succ])
              refine tk 21 ?_ (hy := by first | exact yRc (fun w' h => h.frame.cell G1.out) | (refine Or.inr ⟨by rfl, ?_⟩; rfl))
              (try simp only [Act.put, List.setIfInBounds_toArray, List.set_cons_zero, List.set_cons_succ])
              refine tk 22 ?_
              (try simp only [Act.put, List.setIfInBounds_toArray, List.set_cons_zero, List.set_cons_succ])
              refine tk 23 ?_
              (try simp only [Act.put, List.setIfInBounds_toArray, List.set_cons_zero, List.set_cons_succ])
              refine tk 24 ?_
              (try simp only [Act.put, List.setIfInBounds_toArray, List.set_cons_zero, List.set_cons_succ])
              refine wpAnyH_done (by kernel_rfl) ?_ _
              refine NoPanic.normal ?_
              go_wp2
              go_ret
              exact ⟨ret_bool (by rw [R1.out, R.out]), S.frame⟩
            | true =>
              have X1 := Lib.hid x1
              have R := Lib.hid (show kAt ks 0 = true by rw [KA.out, PV.out]; simp at x1 ⊢; omega)
              clear x1 g1
              go_wp2_with (first | ((with_reducible refine gate_box rfl ?_); refine aBx S ?_; clear S; intro g9 w9 z9 S) | ((with_reducible refine gate_alloc rfl ?_); refine aAl S ?_; clear S; intro g9 w9 z9 S) | ((with_reducible refine gate_load rfl ?_); first | refine aLd S ?_ | refine aPt S ?_ | refine aL1 S ?_) | ((with_reducible refine gate_st rfl ?_); (first | refine aS1 S ?_ | refine aSt S ?_ | refine aSp S ?_); clear S; intro w9 S))
              have S0 := S
              refine wp_region_noPanic ?_
              refine wp_region_held_drew (S := Sep _ _ _) (by kernel_rfl) S0.drew (fun _ => ?_)
              replace S := S.drew
              clear S0
              refine tk 0 ?_
              (try simp only [Act.put, List.setIfInBounds_toArray, List.set_cons_zero, List.set_cons_succ])
              refine tk 1 ?_
              (try simp only [Act.put, List.setIfInBounds_toArray, List.set_cons_zero, List.set_cons_succ])
              refine tk 2 ?_
              (try simp only [Act.put, List.setIfInBounds_toArray, List.set_cons_zero, List.set_cons_succ])
              refine tk 3 ?_
              (try simp only [Act.put, List.setIfInBounds_toArray, List.set_cons_zero, List.set_cons_succ])
              refine tk 4 ?_ (hy := by exact yRc (fun w' h => h.frame.cell G1.out))
              (try simp only [Act.put, List.setIfInBounds_toArray, List.set_cons_zero, List.set_cons_succ])
              refine rdy1 5 (fun K hK => ?_)
              go_simp; (skip; go_at_call 61; (with_reducible refine (l6In_e _ x 1 90 X1.out).mono ?_); rintro e w9 ⟨rfl, rfl⟩)
              (first | refine hK.out _ _ (S.sub subA) (fun _ => ?_) | (go_wp2_with fail; refine hK.out _ _ (S.sub subA) (fun _ => ?_)))
              clear hK K
              (try simp only [Act.put, List.setIfInBounds_toArray, List.set_cons_zero, List.set_cons_succ])
              refine tk 6 ?_
              (try simp only [Act.put, List.setIfInBounds_toArray, List.set_cons_zero, List.set_cons_succ])
              refine tk 7 ?_
              (try simp only [Act.put, List.setIfInBounds_toArray, List.set_cons_zero, List.set_cons_succ])
              refine tk 8 ?_
              (try simp only [Act.put, List.setIfInBounds_toArray, List.set_cons_zero, List.set_cons_succ])
              refine tk 9 ?_
              (try simp only [Act.put, List.setIfInBounds_toArray, List.set_cons_zero, List.set_cons_succ])
              refine tk 10 ?_
              (try simp only [Act.put, List.setIfInBounds_toArray, List.set_cons_zero, List.set_cons_succ])
              refine tk 11 ?_
              (try simp only [Act.put, List.setIfInBounds_toArray, List.set_cons_zero, List.set_cons_succ])
              refine tk 12 ?_
              (try simp only [Act.put, List.setIfInBounds_toArray, List.set_cons_zero, List.set_cons_succ])
              refine tk 13 ?_
              (try simp only [Act.put, List.setIfInBounds_toArray, List.set_cons_zero, List.set_cons_succ])
              refine tk 14 ?_
              (try simp only [Act.put, List.setIfInBounds_toArray, List.set_cons_zero, List.set_cons_succ])
              refine tk 15 ?_
              (try simp only [Act.put, List.setIfInBounds_toArray, List.set_cons_zero, List.set_cons_succ])
              refine tk 16 ?_ (hy := by first | exact yRc (fun w' h => h.frame.cell G0.out) | (refine Or.inr ⟨by rfl, ?_⟩; rfl))
              (try simp only [Act.put, List.setIfInBounds_toArray, List.set_cons_zero, List.set_cons_succ])
              refine tk 17 ?_
              (try simp only [Act.put, List.setIfInBounds_toArray, List.set_cons_zero, List.set_cons_succ])
              refine tk 18 ?_
              (try simp only [Act.put, List.setIfInBounds_toArray, List.set_cons_zero, List.set_cons_succ])
              refine tk 19 ?_
              (try simp only [Act.put, List.setIfInBounds_toArray, List.set_cons_zero, List.set_cons_succ])
              refine tk 20 ?_
              (try simp only [Act.put, List.setIfInBounds_toArray, List.set_cons_zero, List.set_cons_succ])
              refine tk 21 ?_ (hy := by first | exact yRc (fun w' h => h.frame.cell G1.out) | (refine Or.inr ⟨by rfl, ?_⟩; rfl))
              (try simp only [Act.put, List.setIfInBounds_toArray, List.set_cons_zero, List.set_cons_succ])
              refine tk 22 ?_
              (try simp only [Act.put, List.setIfInBounds_toArray, List.set_cons_zero, List.set_cons_succ])
              refine tk 23 ?_
              (try simp only [Act.put, List.setIfInBounds_toArray, List.set_cons_zero, List.set_cons_succ])
              refine tk 24 ?_
              (try simp only [Act.put, List.setIfInBounds_toArray, List.set_cons_zero, List.set_cons_succ])
              refine wpAnyH_done (by kernel_rfl) ?_ _
              refine NoPanic.normal ?_
              go_wp2
              go_roundw
              case rel => exact ⟨_, by omega, by go_num, range_all_succ HA.out R.out, S⟩
              case measure => simp [intOf]; omega
          · have hm : m < ks.length := by omega
            obtain ⟨ad0, e0, g0⟩ := row_int_at h14 m hm
            cases e0
            have PV := Lib.hid (prevK_succ hm)
            obtain ⟨p, hpv⟩ : ∃ p, ks[m] = p := ⟨_, rfl⟩
            rw [hpv] at g0 PV
            have G0 := Lib.hid g0
            rw [PV.out] at KA PP
            clear g0 g1 hpv
            have q0 : (0 : Int) ≤ (m : Int) := Int.natCast_nonneg _
            have q1 : (m : Int) < (ks.length : Int) := by omega
            have q2 : (m : Int) + 1 < (ks.length : Int) := by omega
            have q3 : (0 : Int) ≤ (m : Int) + 1 := by omega
            have w1 : IntKind.i64.wrap ((m : Int) + 1 - 1) = (m : Int) := by rw [Int.add_sub_cancel]; exact IntWalk.i64_in _ (by omega)
            have w2 : IntKind.i64.wrap (m : Int) = (m : Int) := IntWalk.i64_in _ (by omega)
            have d0 : decide ((0 : Int) < (m : Int) + 1) = true := decide_eq_true (by omega)
            cases x1 : decide (1 ≤ x ∧ x ≤ 90) with
            | false =>
              have X1 := Lib.hid x1
              have R := Lib.hid (show knOk ks = false from KB.out (by rw [KA.out]; have := PP.out; simp at x1 ⊢; omega))
              clear x1
              go_wp2_with (first | ((with_reducible refine gate_box rfl ?_); refine aBx S ?_; clear S; intro g9 w9 z9 S) | ((with_reducible refine gate_alloc rfl ?_); refine aAl S ?_; clear S; intro g9 w9 z9 S) | ((with_reducible refine gate_load rfl ?_); first | refine aLd S ?_ | refine aPt S ?_ | refine aL1 S ?_) | ((with_reducible refine gate_st rfl ?_); (first | refine aS1 S ?_ | refine aSt S ?_ | refine aSp S ?_); clear S; intro w9 S))
              have S0 := S
              refine wp_region_noPanic ?_
              refine wp_region_held_drew (S := Sep _ _ _) (by kernel_rfl) S0.drew (fun _ => ?_)
              replace S := S.drew
              clear S0
              refine tk 0 ?_
              (try simp only [Act.put, List.setIfInBounds_toArray, List.set_cons_zero, List.set_cons_succ])
              refine tk 1 ?_
              (try simp only [Act.put, List.setIfInBounds_toArray, List.set_cons_zero, List.set_cons_succ])
              refine tk 2 ?_
              (try simp only [Act.put, List.setIfInBounds_toArray, List.set_cons_zero, List.set_cons_succ])
              refine tk 3 ?_
              (try simp only [Act.put, List.setIfInBounds_toArray, List.set_cons_zero, List.set_cons_succ])
              refine tk 4 ?_ (hy := by exact yRc (fun w' h => h.frame.cell G1.out))
              (try simp only [Act.put, List.setIfInBounds_toArray, List.set_cons_zero, List.set_cons_succ])
              refine rdy1 5 (fun K hK => ?_)
              go_simp; (skip; go_at_call 61; (with_reducible refine (l6In_e _ x 1 90 X1.out).mono ?_); rintro e w9 ⟨rfl, rfl⟩)
              (first | refine hK.out _ _ (S.sub subA) (fun _ => ?_) | (go_wp2_with fail; refine hK.out _ _ (S.sub subA) (fun _ => ?_)))
              clear hK K
              (try simp only [Act.put, List.setIfInBounds_toArray, List.set_cons_zero, List.set_cons_succ])
              refine tk 6 ?_
              (try simp only [Act.put, List.setIfInBounds_toArray, List.set_cons_zero, List.set_cons_succ])
              refine tk 7 ?_
              (try simp only [Act.put, List.setIfInBounds_toArray, List.set_cons_zero, List.set_cons_succ])
              refine tk 8 ?_
              (try simp only [Act.put, List.setIfInBounds_toArray, List.set_cons_zero, List.set_cons_succ])
              refine tk 9 ?_
              (try simp only [Act.put, List.setIfInBounds_toArray, List.set_cons_zero, List.set_cons_succ])
              refine tk 10 ?_
              (try simp only [Act.put, List.setIfInBounds_toArray, List.set_cons_zero, List.set_cons_succ])
              refine tk 11 ?_
              (try simp only [Act.put, List.setIfInBounds_toArray, List.set_cons_zero, List.set_cons_succ])
              refine tk 12 ?_
              (try simp only [Act.put, List.setIfInBounds_toArray, List.set_cons_zero, List.set_cons_succ])
              refine tk 13 ?_
              (try simp only [Act.put, List.setIfInBounds_toArray, List.set_cons_zero, List.set_cons_succ])
              refine tk 14 ?_
              (try simp only [Act.put, List.setIfInBounds_toArray, List.set_cons_zero, List.set_cons_succ])
              refine tk 15 ?_
              (try simp only [Act.put, List.setIfInBounds_toArray, List.set_cons_zero, List.set_cons_succ])
              refine tk 16 ?_ (hy := by first | exact yRc (fun w' h => h.frame.cell G0.out) | (refine Or.inr ⟨by rfl, ?_⟩; rfl))
              (try simp only [Act.put, List.setIfInBounds_toArray, List.set_cons_zero, List.set_cons_succ])
              refine tk 17 ?_
              (try simp only [Act.put, List.setIfInBounds_toArray, List.set_cons_zero, List.set_cons_succ])
              refine tk 18 ?_
              (try simp only [Act.put, List.setIfInBounds_toArray, List.set_cons_zero, List.set_cons_succ])
              refine tk 19 ?_
              (try simp only [Act.put, List.setIfInBounds_toArray, List.set_cons_zero, List.set_cons_succ])
              refine tk 20 ?_
              (try simp only [Act.put, List.setIfInBounds_toArray, List.set_cons_zero, List.set_cons_succ])
              refine tk 21 ?_ (hy := by first | exact yRc (fun w' h => h.frame.cell G1.out) | (refine Or.inr ⟨by rfl, ?_⟩; rfl))
              (try simp only [Act.put, List.setIfInBounds_toArray, List.set_cons_zero, List.set_cons_succ])
              refine tk 22 ?_
              (try simp only [Act.put, List.setIfInBounds_toArray, List.set_cons_zero, List.set_cons_succ])
              refine tk 23 ?_
              (try simp only [Act.put, List.setIfInBounds_toArray, List.set_cons_zero, List.set_cons_succ])
              refine tk 24 ?_
              (try simp only [Act.put, List.setIfInBounds_toArray, List.set_cons_zero, List.set_cons_succ])
              refine wpAnyH_done (by kernel_rfl) ?_ _
              refine NoPanic.normal ?_
              go_wp2
              go_ret
              exact ⟨ret_bool (by rw [R1.out, R.out]), S.frame⟩
            | true =>
              have X1 := Lib.hid x1
              by_cases x2 : x ≤ p
              · have R := Lib.hid (show knOk ks = false from KB.out (by rw [KA.out]; simp at x1 ⊢; omega))
                have d2 : decide (x ≤ p) = true := decide_eq_true x2
                clear x1 x2
                go_wp2_with (first | ((with_reducible refine gate_box rfl ?_); refine aBx S ?_; clear S; intro g9 w9 z9 S) | ((with_reducible refine gate_alloc rfl ?_); refine aAl S ?_; clear S; intro g9 w9 z9 S) | ((with_reducible refine gate_load rfl ?_); first | refine aLd S ?_ | refine aPt S ?_ | refine aL1 S ?_) | ((with_reducible refine gate_st rfl ?_); (first | refine aS1 S ?_ | refine aSt S ?_ | refine aSp S ?_); clear S; intro w9 S))
                have S0 := S
                refine wp_region_noPanic ?_
                refine wp_region_held_drew (S := Sep _ _ _) (by kernel_rfl) S0.drew (fun _ => ?_)
                replace S := S.drew
                clear S0
                refine tk 0 ?_
                (try simp only [Act.put, List.setIfInBounds_toArray, List.set_cons_zero, List.set_cons_succ])
                refine tk 1 ?_
                (try simp only [Act.put, List.setIfInBounds_toArray, List.set_cons_zero, List.set_cons_succ])
                refine tk 2 ?_
                (try simp only [Act.put, List.setIfInBounds_toArray, List.set_cons_zero, List.set_cons_succ])
                refine tk 3 ?_
                (try simp only [Act.put, List.setIfInBounds_toArray, List.set_cons_zero, List.set_cons_succ])
                refine tk 4 ?_ (hy := by exact yRc (fun w' h => h.frame.cell G1.out))
                (try simp only [Act.put, List.setIfInBounds_toArray, List.set_cons_zero, List.set_cons_succ])
                refine rdy1 5 (fun K hK => ?_)
                go_simp; (skip; go_at_call 61; (with_reducible refine (l6In_e _ x 1 90 X1.out).mono ?_); rintro e w9 ⟨rfl, rfl⟩)
                (first | refine hK.out _ _ (S.sub subA) (fun _ => ?_) | (go_wp2_with fail; refine hK.out _ _ (S.sub subA) (fun _ => ?_)))
                clear hK K
                (try simp only [Act.put, List.setIfInBounds_toArray, List.set_cons_zero, List.set_cons_succ])
                refine tk 6 ?_
                (try simp only [Act.put, List.setIfInBounds_toArray, List.set_cons_zero, List.set_cons_succ])
                refine tk 7 ?_
                (try simp only [Act.put, List.setIfInBounds_toArray, List.set_cons_zero, List.set_cons_succ])
                refine tk 8 ?_
                (try simp only [Act.put, List.setIfInBounds_toArray, List.set_cons_zero, List.set_cons_succ])
                refine tk 9 ?_
                (try simp only [Act.put, List.setIfInBounds_toArray, List.set_cons_zero, List.set_cons_succ])
                refine tk 10 ?_
                (try simp only [Act.put, List.setIfInBounds_toArray, List.set_cons_zero, List.set_cons_succ])
                refine tk 11 ?_
                (try simp only [Act.put, List.setIfInBounds_toArray, List.set_cons_zero, List.set_cons_succ])
                refine tk 12 ?_
                (try simp only [Act.put, List.setIfInBounds_toArray, List.set_cons_zero, List.set_cons_succ])
                refine tk 13 ?_
                (try simp only [Act.put, List.setIfInBounds_toArray, List.set_cons_zero, List.set_cons_succ])
                refine tk 14 ?_
                (try simp only [Act.put, List.setIfInBounds_toArray, List.set_cons_zero, List.set_cons_succ])
                refine tk 15 ?_
                (try simp only [Act.put, List.setIfInBounds_toArray, List.set_cons_zero, List.set_cons_succ])
                refine tk 16 ?_ (hy := by first | exact yRc (fun w' h => h.frame.cell G0.out) | (refine Or.inr ⟨by rfl, ?_⟩; rfl))
                (try simp only [Act.put, List.setIfInBounds_toArray, List.set_cons_zero, List.set_cons_succ])
                refine tk 17 ?_
                (try simp only [Act.put, List.setIfInBounds_toArray, List.set_cons_zero, List.set_cons_succ])
                refine tk 18 ?_
                (try simp only [Act.put, List.setIfInBounds_toArray, List.set_cons_zero, List.set_cons_succ])
                refine tk 19 ?_
                (try simp only [Act.put, List.setIfInBounds_toArray, List.set_cons_zero, List.set_cons_succ])
                refine tk 20 ?_
                (try simp only [Act.put, List.setIfInBounds_toArray, List.set_cons_zero, List.set_cons_succ])
                refine tk 21 ?_ (hy := by first | exact yRc (fun w' h => h.frame.cell G1.out) | (refine Or.inr ⟨by rfl, ?_⟩; rfl))
                (try simp only [Act.put, List.setIfInBounds_toArray, List.set_cons_zero, List.set_cons_succ])
                refine tk 22 ?_
                (try simp only [Act.put, List.setIfInBounds_toArray, List.set_cons_zero, List.set_cons_succ])
                refine tk 23 ?_
                (try simp only [Act.put, List.setIfInBounds_toArray, List.set_cons_zero, List.set_cons_succ])
                refine tk 24 ?_
                (try simp only [Act.put, List.setIfInBounds_toArray, List.set_cons_zero, List.set_cons_succ])
                refine wpAnyH_done (by kernel_rfl) ?_ _
                refine NoPanic.normal ?_
                go_wp2
                go_ret
                exact ⟨ret_bool (by rw [R1.out, R.out]), S.frame⟩
              · have R := Lib.hid (show kAt ks (m + 1) = true by rw [KA.out]; simp at x1 ⊢; omega)
                have d2 : decide (x ≤ p) = false := decide_eq_false x2
                clear x1 x2
                go_wp2_with (first | ((with_reducible refine gate_box rfl ?_); refine aBx S ?_; clear S; intro g9 w9 z9 S) | ((with_reducible refine gate_alloc rfl ?_); refine aAl S ?_; clear S; intro g9 w9 z9 S) | ((with_reducible refine gate_load rfl ?_); first | refine aLd S ?_ | refine aPt S ?_ | refine aL1 S ?_) | ((with_reducible refine gate_st rfl ?_); (first | refine aS1 S ?_ | refine aSt S ?_ | refine aSp S ?_); clear S; intro w9 S))
                have S0 := S
                refine wp_region_noPanic ?_
                refine wp_region_held_drew (S := Sep _ _ _) (by kernel_rfl) S0.drew (fun _ => ?_)
                replace S := S.drew
                clear S0
                refine tk 0 ?_
                (try simp only [Act.put, List.setIfInBounds_toArray, List.set_cons_zero, List.set_cons_succ])
                refine tk 1 ?_
                (try simp only [Act.put, List.setIfInBounds_toArray, List.set_cons_zero, List.set_cons_succ])
                refine tk 2 ?_
                (try simp only [Act.put, List.setIfInBounds_toArray, List.set_cons_zero, List.set_cons_succ])
                refine tk 3 ?_
                (try simp only [Act.put, List.setIfInBounds_toArray, List.set_cons_zero, List.set_cons_succ])
                refine tk 4 ?_ (hy := by exact yRc (fun w' h => h.frame.cell G1.out))
                (try simp only [Act.put, List.setIfInBounds_toArray, List.set_cons_zero, List.set_cons_succ])
                refine rdy1 5 (fun K hK => ?_)
                go_simp; (skip; go_at_call 61; (with_reducible refine (l6In_e _ x 1 90 X1.out).mono ?_); rintro e w9 ⟨rfl, rfl⟩)
                (first | refine hK.out _ _ (S.sub subA) (fun _ => ?_) | (go_wp2_with fail; refine hK.out _ _ (S.sub subA) (fun _ => ?_)))
                clear hK K
                (try simp only [Act.put, List.setIfInBounds_toArray, List.set_cons_zero, List.set_cons_succ])
                refine tk 6 ?_
                (try simp only [Act.put, List.setIfInBounds_toArray, List.set_cons_zero, List.set_cons_succ])
                refine tk 7 ?_
                (try simp only [Act.put, List.setIfInBounds_toArray, List.set_cons_zero, List.set_cons_succ])
                refine tk 8 ?_
                (try simp only [Act.put, List.setIfInBounds_toArray, List.set_cons_zero, List.set_cons_succ])
                refine tk 9 ?_
                (try simp only [Act.put, List.setIfInBounds_toArray, List.set_cons_zero, List.set_cons_succ])
                refine tk 10 ?_
                (try simp only [Act.put, List.setIfInBounds_toArray, List.set_cons_zero, List.set_cons_succ])
                refine tk 11 ?_
                (try simp only [Act.put, List.setIfInBounds_toArray, List.set_cons_zero, List.set_cons_succ])
                refine tk 12 ?_
                (try simp only [Act.put, List.setIfInBounds_toArray, List.set_cons_zero, List.set_cons_succ])
                refine tk 13 ?_
                (try simp only [Act.put, List.setIfInBounds_toArray, List.set_cons_zero, List.set_cons_succ])
                refine tk 14 ?_
                (try simp only [Act.put, List.setIfInBounds_toArray, List.set_cons_zero, List.set_cons_succ])
                refine tk 15 ?_
                (try simp only [Act.put, List.setIfInBounds_toArray, List.set_cons_zero, List.set_cons_succ])
                refine tk 16 ?_ (hy := by first | exact yRc (fun w' h => h.frame.cell G0.out) | (refine Or.inr ⟨by rfl, ?_⟩; rfl))
                (try simp only [Act.put, List.setIfInBounds_toArray, List.set_cons_zero, List.set_cons_succ])
                refine tk 17 ?_
                (try simp only [Act.put, List.setIfInBounds_toArray, List.set_cons_zero, List.set_cons_succ])
                refine tk 18 ?_
                (try simp only [Act.put, List.setIfInBounds_toArray, List.set_cons_zero, List.set_cons_succ])
                refine tk 19 ?_
                (try simp only [Act.put, List.setIfInBounds_toArray, List.set_cons_zero, List.set_cons_succ])
                refine tk 20 ?_
                (try simp only [Act.put, List.setIfInBounds_toArray, List.set_cons_zero, List.set_cons_succ])
                refine tk 21 ?_ (hy := by first | exact yRc (fun w' h => h.frame.cell G1.out) | (refine Or.inr ⟨by rfl, ?_⟩; rfl))
                (try simp only [Act.put, List.setIfInBounds_toArray, List.set_cons_zero, List.set_cons_succ])
                refine tk 22 ?_
                (try simp only [Act.put, List.setIfInBounds_toArray, List.set_cons_zero, List.set_cons_succ])
                refine tk 23 ?_
                (try simp only [Act.put, List.setIfInBounds_toArray, List.set_cons_zero, List.set_cons_succ])
                refine tk 24 ?_
                (try simp only [Act.put, List.setIfInBounds_toArray, List.set_cons_zero, List.set_cons_succ])
                refine wpAnyH_done (by kernel_rfl) ?_ _
                refine NoPanic.normal ?_
                go_wp2
                go_roundw
                case rel => exact ⟨_, by omega, by go_num, range_all_succ HA.out R.out, S⟩
                case measure => simp [intOf]; omega
        · obtain rfl : k = ks.length := by omega
          have R := Lib.hid (show knOk ks = true from HA.out)
          go_wp2_with (first | ((with_reducible refine gate_box rfl ?_); refine aBx S ?_; clear S; intro g9 w9 z9 S) | ((with_reducible refine gate_alloc rfl ?_); refine aAl S ?_; clear S; intro g9 w9 z9 S) | ((with_reducible refine gate_load rfl ?_); first | refine aLd S ?_ | refine aPt S ?_ | refine aL1 S ?_) | ((with_reducible refine gate_st rfl ?_); (first | refine aS1 S ?_ | refine aSt S ?_ | refine aSp S ?_); clear S; intro w9 S))
          go_ret
          exact ⟨ret_bool (by rw [R1.out, R.out]), S.frame⟩
end Go.Proofs.Ytapdcgjccckjeaa
