/- A link handed over as a chain. -/
import Derived.Test.YtapdcgjccckjeaaLnkD
namespace Go.Proofs.Ytapdcgjccckjeaa
set_option maxRecDepth 100000
set_option linter.unusedVariables false
set_option linter.unusedSimpArgs false
open Go.RowKit
theorem rev_take {α : Type} (xs : List α) (k : Nat) (h : k < xs.length) : (xs.take (k + 1)).reverse = xs[k] :: (xs.take k).reverse := by
  rw [List.take_succ_eq_append_getElem h, List.reverse_append]
  rfl
theorem rep_drop {α : Type} (xs : List α) (z : α) (k : Nat) : List.replicate (k + 1) z ++ xs.drop (k + 1) = List.replicate k z ++ z :: xs.drop (k + 1) := by
  rw [List.replicate_succ', List.append_assoc]
  rfl
set_option maxHeartbeats 6400000 in
theorem chain_c (w : World) (g : Nat) (c : Ch) (F : List Nat) (h : (aLnk g c F).ok w ∧ F.Nodup) (hl : c.past.length ≤ 1000000) :
    Calls Try.prog 65 #[.pointer (some ⟨g, 0, none⟩)] w fun e w' => ∃ cs F', e = .returned (.agg cs.toArray) ∧ Sep F w [aOwn tCh c cs F'] w' := by
  have S := Sep.startLnk h.1 h.2
  obtain ⟨A1, m1, A2, m2, B1, n1, B2, n2, B3, n3, B4, n4, p, A5, m5, Y1, Y2, Z1, Z2, Z3, Z4, M1, K1, I9, J9, h15, S9⟩ := S.openLnk
  replace S := S9
  clear S9
  have HP := Lib.hid (show c.past.length ≤ 2097152 by omega)
  clear h
  go_enter Try.func65, Try.ntmps65
  go_wp2_with (first | ((with_reducible refine gate_dst (N := 2) rfl ?_); refine aAl S ?_; clear S; intro gR w9 z9 S))
  have S0 := (Sep.only1 (a1 := aBox g _ _ _) S delA)
  refine wp_region_noPanic ?_
  refine wp_region_held_drew (S := Sep _ _ _) (by kernel_rfl) S0.drew (fun _ => ?_)
  replace S := S.drew
  clear S0
  refine tk 0 ?_
  (try simp only [Act.put, List.setIfInBounds_toArray, List.set_cons_zero, List.set_cons_succ])
  refine tk 1 ?_
  (try simp only [Act.put, List.setIfInBounds_toArray, List.set_cons_zero, List.set_cons_succ])
  refine tk 2 ?_
  (try simp only [Act.put, List.setIfInBounds_toArray, List.set_cons_zero, List.set_cons_succ])
  refine tk 3 ?_ (hy := by exact yL1)
  (try simp only [Act.put, List.setIfInBounds_toArray, List.set_cons_zero, List.set_cons_succ])
  refine tk 4 ?_
  (try simp only [Act.put, List.setIfInBounds_toArray, List.set_cons_zero, List.set_cons_succ])
  refine tk 5 ?_
  (try simp only [Act.put, List.setIfInBounds_toArray, List.set_cons_zero, List.set_cons_succ])
  refine tk 6 ?_
  (try simp only [Act.put, List.setIfInBounds_toArray, List.set_cons_zero, List.set_cons_succ])
  refine tk 7 ?_ (hy := by exact yPt)
  (try simp only [Act.put, List.setIfInBounds_toArray, List.set_cons_zero, List.set_cons_succ])
  refine tk 8 ?_
  (try simp only [Act.put, List.setIfInBounds_toArray, List.set_cons_zero, List.set_cons_succ])
  refine tk 9 ?_
  (try simp only [Act.put, List.setIfInBounds_toArray, List.set_cons_zero, List.set_cons_succ])
  refine tk 10 ?_
  (try simp only [Act.put, List.setIfInBounds_toArray, List.set_cons_zero, List.set_cons_succ])
  refine tk 11 ?_ (hy := by exact yPt)
  (try simp only [Act.put, List.setIfInBounds_toArray, List.set_cons_zero, List.set_cons_succ])
  refine tk 12 ?_
  (try simp only [Act.put, List.setIfInBounds_toArray, List.set_cons_zero, List.set_cons_succ])
  refine tk 13 ?_
  (try simp only [Act.put, List.setIfInBounds_toArray, List.set_cons_zero, List.set_cons_succ])
  refine tk 14 ?_
  (try simp only [Act.put, List.setIfInBounds_toArray, List.set_cons_zero, List.set_cons_succ])
  refine tk 15 ?_ (hy := by exact yL1)
  (try simp only [Act.put, List.setIfInBounds_toArray, List.set_cons_zero, List.set_cons_succ])
  refine tk 17 ?_
  (try simp only [Act.put, List.setIfInBounds_toArray, List.set_cons_zero, List.set_cons_succ])
  refine tk 18 ?_
  (try simp only [Act.put, List.setIfInBounds_toArray, List.set_cons_zero, List.set_cons_succ])
  refine tk 19 ?_
  (try simp only [Act.put, List.setIfInBounds_toArray, List.set_cons_zero, List.set_cons_succ])
  refine tk 20 ?_ (hy := by exact yL1)
  (try simp only [Act.put, List.setIfInBounds_toArray, List.set_cons_zero, List.set_cons_succ])
  refine rdys [16, 22] ?_
  refine rdc 16 (fun K hK => ?_) ?_
  · refine rgMk (d := tSt) zStS S zStS_own HP.out ?_; clear S; intro gp w9 z9 S
    (first | refine hK.out _ _ (S.sub subA) (fun _ => ?_) | (go_wp2_with fail; refine hK.out _ _ (S.sub subA) (fun _ => ?_)))
    clear hK K
    (try simp only [Act.put, List.setIfInBounds_toArray, List.set_cons_zero, List.set_cons_succ])
    refine tk 21 ?_
    (try simp only [Act.put, List.setIfInBounds_toArray, List.set_cons_zero, List.set_cons_succ])
    refine rdy1 22 (fun K hK => ?_)
    refine rgAl S ?_; clear S; intro gC w9 z9 S
    (first | refine hK.out _ _ (S.sub subA) (fun _ => ?_) | (go_wp2_with fail; refine hK.out _ _ (S.sub subA) (fun _ => ?_)))
    clear hK K
    (try simp only [Act.put, List.setIfInBounds_toArray, List.set_cons_zero, List.set_cons_succ])
    refine rdy1 23 (fun K hK => ?_)
    (first | refine rgS1 S ?_ | refine rgSt S ?_ | refine rgSp S ?_); clear S; intro w9 S
    (first | refine hK.out _ _ (S.sub subA) (fun _ => ?_) | (go_wp2_with fail; refine hK.out _ _ (S.sub subA) (fun _ => ?_)))
    clear hK K
    (try simp only [Act.put, List.setIfInBounds_toArray, List.set_cons_zero, List.set_cons_succ])
    refine wpAnyH_done (by kernel_rfl) ?_ _
    refine NoPanic.normal ?_
    go_wp2_with (first | ((with_reducible refine gate_box rfl ?_); refine aBx S ?_; clear S; intro g9 w9 z9 S) | ((with_reducible refine gate_alloc rfl ?_); refine aAl S ?_; clear S; intro g9 w9 z9 S) | ((with_reducible refine gate_load rfl ?_); first | refine aLd S ?_ | refine aPt S ?_ | refine aL1 S ?_) | ((with_reducible refine gate_st rfl ?_); (first | refine aS1 S ?_ | refine aSt S ?_ | refine aSp S ?_); clear S; intro w9 S))
    go_loopw [4, 5] (fun i m wr => ∃ (k : Nat) (p : Option Addr) (Fm Fp : List Nat), k ≤ c.past.length ∧ i = .int .i64 k ∧ m = .pointer p ∧ Sep F w [aMks (.pointer p) (c.past.take k).reverse Fm, aRow tSt 30 (List.replicate k zStS ++ c.past.drop k) (.slice (some ⟨gp, 0, none⟩) c.past.length c.past.length) Fp, aBox gC 33 13 _, aRow tInt 3 c.bank.own (.slice A1 c.bank.own.length m1) Y1, aRow tInt 3 c.bank.notes (.slice A2 c.bank.notes.length m2) Y2, aRow tPk 88 c.st.sent (.slice B1 c.st.sent.length n1) Z1, aRow tBool 4 c.st.live (.slice B2 c.st.live.length n2) Z2, aRow tBool 4 c.st.back (.slice B3 c.st.back.length n3) Z3, aRow tInt 3 c.st.got (.slice B4 c.st.got.length n4) Z4, aRow tInt 3 c.knows (.slice A5 c.knows.length m5) K1, aBox gR 33 13 _] wr) (fun i _ _ => (intOf i).toNat)
    case atStart => exact ⟨c.past.length, p, M1, _, Nat.le_refl _, rfl, rfl, by rw [List.take_length, List.drop_length, List.append_nil]; exact (Sep.only11 (a1 := aMks _ _ _) (a2 := aRow tSt _ _ _ _) (a3 := aBox gC _ _ _) (a4 := aRow tInt _ _ _ Y1) (a5 := aRow tInt _ _ _ Y2) (a6 := aRow tPk _ _ _ Z1) (a7 := aRow tBool _ _ _ Z2) (a8 := aRow tBool _ _ _ Z3) (a9 := aRow tInt _ _ _ Z4) (a10 := aRow tInt _ _ _ K1) (a11 := aBox gR _ _ _) S delA delA delA delA delA delA delA delA delA delA delA)⟩
    case round =>
      clear S
      obtain ⟨k, p, Fm, Fp, hk, rfl, rfl, S⟩ := hrel
      rcases k with _ | k
      · obtain ⟨hp, S9⟩ := S.mksNil
        cases hp
        replace S := S9
        clear S9
        rw [List.drop_zero, List.replicate_zero, List.nil_append] at S
        go_wp2_with (first | ((with_reducible refine gate_box rfl ?_); refine aBx S ?_; clear S; intro g9 w9 z9 S) | ((with_reducible refine gate_alloc rfl ?_); refine aAl S ?_; clear S; intro g9 w9 z9 S) | ((with_reducible refine gate_load rfl ?_); first | refine aLd S ?_ | refine aPt S ?_ | refine aL1 S ?_) | ((with_reducible refine gate_st rfl ?_); (first | refine aS1 S ?_ | refine aSt S ?_ | refine aSp S ?_); clear S; intro w9 S))
        have S' := S.allCh c I9 J9 h15
        (refine Sep.ret1 S rfl rfl memA Try.underlying33 rfl ts33 rfl ?_)
        exact ⟨_, _, rfl, S'.left [_]⟩
      · have hlt : k < c.past.length := by omega
        rw [rev_take c.past k hlt, rep_drop] at S
        obtain ⟨gm, v1, v2, v3, v4, a, F1, F2, hp, hF, S9⟩ := S.mksUncons
        cases hp
        replace S := S9
        clear S9 hF
        have T0 := Lib.hid (show (List.replicate k zStS).length = k by simp)
        have D1 := Lib.hid (show c.past[k] :: c.past.drop (k + 1) = c.past.drop k from (List.drop_eq_getElem_cons hlt).symm)
        have p0 : (0 : Int) ≤ (k : Int) := Int.natCast_nonneg _
        have p1 : (k : Int) < (c.past.length : Int) := by omega
        have w1 : IntKind.i64.wrap ((k : Int) + 1 - 1) = (k : Int) := by rw [Int.add_sub_cancel]; exact IntWalk.i64_in _ (by omega)
        have w2 : IntKind.i64.wrap (k : Int) = (k : Int) := IntWalk.i64_in _ (by omega)
        clear hk
        go_wp2_with (first | ((with_reducible refine gate_box rfl ?_); refine aBx S ?_; clear S; intro g9 w9 z9 S) | ((with_reducible refine gate_alloc rfl ?_); refine aAl S ?_; clear S; intro g9 w9 z9 S) | ((with_reducible refine gate_load rfl ?_); first | refine aLd S ?_ | refine aPt S ?_ | refine aL1 S ?_) | ((with_reducible refine gate_st rfl ?_); (first | refine aS1 S ?_ | refine aSt S ?_ | refine aSp S ?_); clear S; intro w9 S))
        have S0 := (Sep.only2 (a1 := aBox gm _ _ _) (a2 := aBox gC _ _ _) S delA delA)
        refine wp_region_noPanic ?_
        refine wp_region_held_drew (S := Sep _ _ _) (by kernel_rfl) S0.drew (fun _ => ?_)
        replace S := S.drew
        clear S0
        refine tk 0 ?_
        (try simp only [Act.put, List.setIfInBounds_toArray, List.set_cons_zero, List.set_cons_succ])
        refine tk 1 ?_ (hy := by exact yL1)
        (try simp only [Act.put, List.setIfInBounds_toArray, List.set_cons_zero, List.set_cons_succ])
        refine tk 2 ?_
        (try simp only [Act.put, List.setIfInBounds_toArray, List.set_cons_zero, List.set_cons_succ])
        refine tk 3 ?_
        (try simp only [Act.put, List.setIfInBounds_toArray, List.set_cons_zero, List.set_cons_succ])
        refine tk 4 ?_
        (try simp only [Act.put, List.setIfInBounds_toArray, List.set_cons_zero, List.set_cons_succ])
        refine tk 5 ?_
        (try simp only [Act.put, List.setIfInBounds_toArray, List.set_cons_zero, List.set_cons_succ])
        refine tk 6 ?_ (hy := by exact yPt)
        (try simp only [Act.put, List.setIfInBounds_toArray, List.set_cons_zero, List.set_cons_succ])
        refine tk 7 ?_
        (try simp only [Act.put, List.setIfInBounds_toArray, List.set_cons_zero, List.set_cons_succ])
        refine rdy1 8 (fun K hK => ?_)
        refine rgEl S delA delA T0.out ?_; clear S; intro F9 w9 S
        (first | refine hK.out _ _ (S.sub subA) (fun _ => ?_) | (go_wp2_with fail; refine hK.out _ _ (S.sub subA) (fun _ => ?_)))
        clear hK K
        (try simp only [Act.put, List.setIfInBounds_toArray, List.set_cons_zero, List.set_cons_succ])
        refine wpAnyH_done (by kernel_rfl) ?_ _
        refine NoPanic.normal ?_
        go_wp2_with (first | ((with_reducible refine gate_box rfl ?_); refine aBx S ?_; clear S; intro g9 w9 z9 S) | ((with_reducible refine gate_alloc rfl ?_); refine aAl S ?_; clear S; intro g9 w9 z9 S) | ((with_reducible refine gate_load rfl ?_); first | refine aLd S ?_ | refine aPt S ?_ | refine aL1 S ?_) | ((with_reducible refine gate_st rfl ?_); (first | refine aS1 S ?_ | refine aSt S ?_ | refine aSp S ?_); clear S; intro w9 S))
        rw [D1.out] at S
        go_roundw
        case rel => exact ⟨k, a, F2, F9, by omega, by go_num, rfl, (Sep.only11 (a1 := aMks _ _ _) (a2 := aRow tSt _ _ _ _) (a3 := aBox gC _ _ _) (a4 := aRow tInt _ _ _ Y1) (a5 := aRow tInt _ _ _ Y2) (a6 := aRow tPk _ _ _ Z1) (a7 := aRow tBool _ _ _ Z2) (a8 := aRow tBool _ _ _ Z3) (a9 := aRow tInt _ _ _ Z4) (a10 := aRow tInt _ _ _ K1) (a11 := aBox gR _ _ _) S delA delA delA delA delA delA delA delA delA delA delA)⟩
        case measure => simp [intOf]
  refine rdc 22 (fun K hK => ?_) AllReadyH.nil
  refine rgAl S ?_; clear S; intro gC w9 z9 S
  (first | refine hK.out _ _ (S.sub subA) (fun _ => ?_) | (go_wp2_with fail; refine hK.out _ _ (S.sub subA) (fun _ => ?_)))
  clear hK K
  (try simp only [Act.put, List.setIfInBounds_toArray, List.set_cons_zero, List.set_cons_succ])
  refine rdy1 16 (fun K hK => ?_)
  refine rgMk (d := tSt) zStS S zStS_own HP.out ?_; clear S; intro gp w9 z9 S
  (first | refine hK.out _ _ (S.sub subA) (fun _ => ?_) | (go_wp2_with fail; refine hK.out _ _ (S.sub subA) (fun _ => ?_)))
  clear hK K
  (try simp only [Act.put, List.setIfInBounds_toArray, List.set_cons_zero, List.set_cons_succ])
  refine tk 21 ?_
  (try simp only [Act.put, List.setIfInBounds_toArray, List.set_cons_zero, List.set_cons_succ])
  refine rdy1 23 (fun K hK => ?_)
  (first | refine rgS1 S ?_ | refine rgSt S ?_ | refine rgSp S ?_); clear S; intro w9 S
  (first | refine hK.out _ _ (S.sub subA) (fun _ => ?_) | (go_wp2_with fail; refine hK.out _ _ (S.sub subA) (fun _ => ?_)))
  clear hK K
  (try simp only [Act.put, List.setIfInBounds_toArray, List.set_cons_zero, List.set_cons_succ])
  refine wpAnyH_done (by kernel_rfl) ?_ _
  refine NoPanic.normal ?_
  go_wp2_with (first | ((with_reducible refine gate_box rfl ?_); refine aBx S ?_; clear S; intro g9 w9 z9 S) | ((with_reducible refine gate_alloc rfl ?_); refine aAl S ?_; clear S; intro g9 w9 z9 S) | ((with_reducible refine gate_load rfl ?_); first | refine aLd S ?_ | refine aPt S ?_ | refine aL1 S ?_) | ((with_reducible refine gate_st rfl ?_); (first | refine aS1 S ?_ | refine aSt S ?_ | refine aSp S ?_); clear S; intro w9 S))
  go_loopw [4, 5] (fun i m wr => ∃ (k : Nat) (p : Option Addr) (Fm Fp : List Nat), k ≤ c.past.length ∧ i = .int .i64 k ∧ m = .pointer p ∧ Sep F w [aMks (.pointer p) (c.past.take k).reverse Fm, aRow tSt 30 (List.replicate k zStS ++ c.past.drop k) (.slice (some ⟨gp, 0, none⟩) c.past.length c.past.length) Fp, aBox gC 33 13 _, aRow tInt 3 c.bank.own (.slice A1 c.bank.own.length m1) Y1, aRow tInt 3 c.bank.notes (.slice A2 c.bank.notes.length m2) Y2, aRow tPk 88 c.st.sent (.slice B1 c.st.sent.length n1) Z1, aRow tBool 4 c.st.live (.slice B2 c.st.live.length n2) Z2, aRow tBool 4 c.st.back (.slice B3 c.st.back.length n3) Z3, aRow tInt 3 c.st.got (.slice B4 c.st.got.length n4) Z4, aRow tInt 3 c.knows (.slice A5 c.knows.length m5) K1, aBox gR 33 13 _] wr) (fun i _ _ => (intOf i).toNat)
  case atStart => exact ⟨c.past.length, p, M1, _, Nat.le_refl _, rfl, rfl, by rw [List.take_length, List.drop_length, List.append_nil]; exact (Sep.only11 (a1 := aMks _ _ _) (a2 := aRow tSt _ _ _ _) (a3 := aBox gC _ _ _) (a4 := aRow tInt _ _ _ Y1) (a5 := aRow tInt _ _ _ Y2) (a6 := aRow tPk _ _ _ Z1) (a7 := aRow tBool _ _ _ Z2) (a8 := aRow tBool _ _ _ Z3) (a9 := aRow tInt _ _ _ Z4) (a10 := aRow tInt _ _ _ K1) (a11 := aBox gR _ _ _) S delA delA delA delA delA delA delA delA delA delA delA)⟩
  case round =>
    clear S
    obtain ⟨k, p, Fm, Fp, hk, rfl, rfl, S⟩ := hrel
    rcases k with _ | k
    · obtain ⟨hp, S9⟩ := S.mksNil
      cases hp
      replace S := S9
      clear S9
      rw [List.drop_zero, List.replicate_zero, List.nil_append] at S
      go_wp2_with (first | ((with_reducible refine gate_box rfl ?_); refine aBx S ?_; clear S; intro g9 w9 z9 S) | ((with_reducible refine gate_alloc rfl ?_); refine aAl S ?_; clear S; intro g9 w9 z9 S) | ((with_reducible refine gate_load rfl ?_); first | refine aLd S ?_ | refine aPt S ?_ | refine aL1 S ?_) | ((with_reducible refine gate_st rfl ?_); (first | refine aS1 S ?_ | refine aSt S ?_ | refine aSp S ?_); clear S; intro w9 S))
      have S' := S.allCh c I9 J9 h15
      (refine Sep.ret1 S rfl rfl memA Try.underlying33 rfl ts33 rfl ?_)
      exact ⟨_, _, rfl, S'.left [_]⟩
    · have hlt : k < c.past.length := by omega
      rw [rev_take c.past k hlt, rep_drop] at S
      obtain ⟨gm, v1, v2, v3, v4, a, F1, F2, hp, hF, S9⟩ := S.mksUncons
      cases hp
      replace S := S9
      clear S9 hF
      have T0 := Lib.hid (show (List.replicate k zStS).length = k by simp)
      have D1 := Lib.hid (show c.past[k] :: c.past.drop (k + 1) = c.past.drop k from (List.drop_eq_getElem_cons hlt).symm)
      have p0 : (0 : Int) ≤ (k : Int) := Int.natCast_nonneg _
      have p1 : (k : Int) < (c.past.length : Int) := by omega
      have w1 : IntKind.i64.wrap ((k : Int) + 1 - 1) = (k : Int) := by rw [Int.add_sub_cancel]; exact IntWalk.i64_in _ (by omega)
      have w2 : IntKind.i64.wrap (k : Int) = (k : Int) := IntWalk.i64_in _ (by omega)
      clear hk
      go_wp2_with (first | ((with_reducible refine gate_box rfl ?_); refine aBx S ?_; clear S; intro g9 w9 z9 S) | ((with_reducible refine gate_alloc rfl ?_); refine aAl S ?_; clear S; intro g9 w9 z9 S) | ((with_reducible refine gate_load rfl ?_); first | refine aLd S ?_ | refine aPt S ?_ | refine aL1 S ?_) | ((with_reducible refine gate_st rfl ?_); (first | refine aS1 S ?_ | refine aSt S ?_ | refine aSp S ?_); clear S; intro w9 S))
      have S0 := (Sep.only2 (a1 := aBox gm _ _ _) (a2 := aBox gC _ _ _) S delA delA)
      refine wp_region_noPanic ?_
      refine wp_region_held_drew (S := Sep _ _ _) (by kernel_rfl) S0.drew (fun _ => ?_)
      replace S := S.drew
      clear S0
      refine tk 0 ?_
      (try simp only [Act.put, List.setIfInBounds_toArray, List.set_cons_zero, List.set_cons_succ])
      refine tk 1 ?_ (hy := by exact yL1)
      (try simp only [Act.put, List.setIfInBounds_toArray, List.set_cons_zero, List.set_cons_succ])
      refine tk 2 ?_
      (try simp only [Act.put, List.setIfInBounds_toArray, List.set_cons_zero, List.set_cons_succ])
      refine tk 3 ?_
      (try simp only [Act.put, List.setIfInBounds_toArray, List.set_cons_zero, List.set_cons_succ])
      refine tk 4 ?_
      (try simp only [Act.put, List.setIfInBounds_toArray, List.set_cons_zero, List.set_cons_succ])
      refine tk 5 ?_
      (try simp only [Act.put, List.setIfInBounds_toArray, List.set_cons_zero, List.set_cons_succ])
      refine tk 6 ?_ (hy := by exact yPt)
      (try simp only [Act.put, List.setIfInBounds_toArray, List.set_cons_zero, List.set_cons_succ])
      refine tk 7 ?_
      (try simp only [Act.put, List.setIfInBounds_toArray, List.set_cons_zero, List.set_cons_succ])
      refine rdy1 8 (fun K hK => ?_)
      refine rgEl S delA delA T0.out ?_; clear S; intro F9 w9 S
      (first | refine hK.out _ _ (S.sub subA) (fun _ => ?_) | (go_wp2_with fail; refine hK.out _ _ (S.sub subA) (fun _ => ?_)))
      clear hK K
      (try simp only [Act.put, List.setIfInBounds_toArray, List.set_cons_zero, List.set_cons_succ])
      refine wpAnyH_done (by kernel_rfl) ?_ _
      refine NoPanic.normal ?_
      go_wp2_with (first | ((with_reducible refine gate_box rfl ?_); refine aBx S ?_; clear S; intro g9 w9 z9 S) | ((with_reducible refine gate_alloc rfl ?_); refine aAl S ?_; clear S; intro g9 w9 z9 S) | ((with_reducible refine gate_load rfl ?_); first | refine aLd S ?_ | refine aPt S ?_ | refine aL1 S ?_) | ((with_reducible refine gate_st rfl ?_); (first | refine aS1 S ?_ | refine aSt S ?_ | refine aSp S ?_); clear S; intro w9 S))
      rw [D1.out] at S
      go_roundw
      case rel => exact ⟨k, a, F2, F9, by omega, by go_num, rfl, (Sep.only11 (a1 := aMks _ _ _) (a2 := aRow tSt _ _ _ _) (a3 := aBox gC _ _ _) (a4 := aRow tInt _ _ _ Y1) (a5 := aRow tInt _ _ _ Y2) (a6 := aRow tPk _ _ _ Z1) (a7 := aRow tBool _ _ _ Z2) (a8 := aRow tBool _ _ _ Z3) (a9 := aRow tInt _ _ _ Z4) (a10 := aRow tInt _ _ _ K1) (a11 := aBox gR _ _ _) S delA delA delA delA delA delA delA delA delA delA delA)⟩
      case measure => simp [intOf]
end Go.Proofs.Ytapdcgjccckjeaa
