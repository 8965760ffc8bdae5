/- PacketOk of the program and of the reference. -/
import Derived.Test.YtphojlkljlnfjaaDoorPk
namespace Go.Proofs.YtphojlkljlnfjaaDoor
set_option maxRecDepth 100000
set_option linter.unusedVariables false
set_option linter.unusedSimpArgs false
open Go.RowKit
set_option maxHeartbeats 3200000 in
theorem sPacketOk_c (w : World) (p : Pk) : Calls Tryd.prog 26 #[.agg p.cells.toArray] w (Ret (.bool (okPk p)) w) := by
  obtain ⟨s, k, a, b, m, u, v⟩ := p
  have f := Fr.refl w
  cases ds : decide (1 ≤ s ∧ s ≤ 8) with
  | false =>
    go_enter Tryd.func26, Tryd.ntmps26
    go_wp2_with (first
      | ((with_reducible refine gate_dst (N := 1) rfl ?_); refine wpList_box rfl _ _ rfl #[.int .i64 s, .int .i64 k, .int .i64 a, .int .i64 b, .int .i64 m, .int .i64 u, .int .i64 v] rfl ?_; intro g_k1 w9 hg_k1 k1 f9; have zf_k1 := f.size; have hl_k1 := k1.lt; have z9 := f9.size; replace f := f.trans f9; (try clear r_k1); have r_k1 := k1.cells)
      | (go_at_call 37; (with_reducible refine (l6In_c _ _ _ _).mono ?_); rintro e w9 ⟨rfl, rfl⟩; (try rw [ds]))
      | (go_at_call 38; (with_reducible refine (l1User_c _ _).mono ?_); rintro e w9 ⟨rfl, rfl⟩; (try rw [ds])))
    go_ret
    exact ⟨ret_bool (by simp only [okPk, ds]; first | rfl | simp), f⟩
  | true =>
    cases dk : decide (1 ≤ k ∧ k ≤ 2) with
    | false =>
      go_enter Tryd.func26, Tryd.ntmps26
      go_wp2_with (first
        | ((with_reducible refine gate_dst (N := 1) rfl ?_); refine wpList_box rfl _ _ rfl #[.int .i64 s, .int .i64 k, .int .i64 a, .int .i64 b, .int .i64 m, .int .i64 u, .int .i64 v] rfl ?_; intro g_k1 w9 hg_k1 k1 f9; have zf_k1 := f.size; have hl_k1 := k1.lt; have z9 := f9.size; replace f := f.trans f9; (try clear r_k1); have r_k1 := k1.cells)
        | (go_at_call 37; (with_reducible refine (l6In_c _ _ _ _).mono ?_); rintro e w9 ⟨rfl, rfl⟩; (try rw [ds]); (try rw [dk]))
        | (go_at_call 38; (with_reducible refine (l1User_c _ _).mono ?_); rintro e w9 ⟨rfl, rfl⟩; (try rw [ds]); (try rw [dk])))
      go_ret
      exact ⟨ret_bool (by simp only [okPk, ds, dk]; first | rfl | simp), f⟩
    | true =>
      cases da : decide (1 ≤ a ∧ a ≤ 3) with
      | false =>
        go_enter Tryd.func26, Tryd.ntmps26
        go_wp2_with (first
          | ((with_reducible refine gate_dst (N := 1) rfl ?_); refine wpList_box rfl _ _ rfl #[.int .i64 s, .int .i64 k, .int .i64 a, .int .i64 b, .int .i64 m, .int .i64 u, .int .i64 v] rfl ?_; intro g_k1 w9 hg_k1 k1 f9; have zf_k1 := f.size; have hl_k1 := k1.lt; have z9 := f9.size; replace f := f.trans f9; (try clear r_k1); have r_k1 := k1.cells)
          | (go_at_call 37; (with_reducible refine (l6In_c _ _ _ _).mono ?_); rintro e w9 ⟨rfl, rfl⟩; (try rw [ds]); (try rw [dk]); (try rw [da]))
          | (go_at_call 38; (with_reducible refine (l1User_c _ _).mono ?_); rintro e w9 ⟨rfl, rfl⟩; (try rw [ds]); (try rw [dk]); (try rw [da])))
        go_ret
        exact ⟨ret_bool (by simp only [okPk, ds, dk, da]; first | rfl | simp), f⟩
      | true =>
        cases db : decide (0 ≤ b ∧ b ≤ 3) with
        | false =>
          go_enter Tryd.func26, Tryd.ntmps26
          go_wp2_with (first
            | ((with_reducible refine gate_dst (N := 1) rfl ?_); refine wpList_box rfl _ _ rfl #[.int .i64 s, .int .i64 k, .int .i64 a, .int .i64 b, .int .i64 m, .int .i64 u, .int .i64 v] rfl ?_; intro g_k1 w9 hg_k1 k1 f9; have zf_k1 := f.size; have hl_k1 := k1.lt; have z9 := f9.size; replace f := f.trans f9; (try clear r_k1); have r_k1 := k1.cells)
            | (go_at_call 37; (with_reducible refine (l6In_c _ _ _ _).mono ?_); rintro e w9 ⟨rfl, rfl⟩; (try rw [ds]); (try rw [dk]); (try rw [da]); (try rw [db]))
            | (go_at_call 38; (with_reducible refine (l1User_c _ _).mono ?_); rintro e w9 ⟨rfl, rfl⟩; (try rw [ds]); (try rw [dk]); (try rw [da]); (try rw [db])))
          go_ret
          exact ⟨ret_bool (by simp only [okPk, ds, dk, da, db]; first | rfl | simp), f⟩
        | true =>
          cases dm : decide (1 ≤ m ∧ m ≤ 9) with
          | false =>
            go_enter Tryd.func26, Tryd.ntmps26
            go_wp2_with (first
              | ((with_reducible refine gate_dst (N := 1) rfl ?_); refine wpList_box rfl _ _ rfl #[.int .i64 s, .int .i64 k, .int .i64 a, .int .i64 b, .int .i64 m, .int .i64 u, .int .i64 v] rfl ?_; intro g_k1 w9 hg_k1 k1 f9; have zf_k1 := f.size; have hl_k1 := k1.lt; have z9 := f9.size; replace f := f.trans f9; (try clear r_k1); have r_k1 := k1.cells)
              | (go_at_call 37; (with_reducible refine (l6In_c _ _ _ _).mono ?_); rintro e w9 ⟨rfl, rfl⟩; (try rw [ds]); (try rw [dk]); (try rw [da]); (try rw [db]); (try rw [dm]))
              | (go_at_call 38; (with_reducible refine (l1User_c _ _).mono ?_); rintro e w9 ⟨rfl, rfl⟩; (try rw [ds]); (try rw [dk]); (try rw [da]); (try rw [db]); (try rw [dm])))
            go_ret
            exact ⟨ret_bool (by simp only [okPk, ds, dk, da, db, dm]; first | rfl | simp), f⟩
          | true =>
            cases du : decide (1 ≤ u ∧ u ≤ 90) with
            | false =>
              go_enter Tryd.func26, Tryd.ntmps26
              go_wp2_with (first
                | ((with_reducible refine gate_dst (N := 1) rfl ?_); refine wpList_box rfl _ _ rfl #[.int .i64 s, .int .i64 k, .int .i64 a, .int .i64 b, .int .i64 m, .int .i64 u, .int .i64 v] rfl ?_; intro g_k1 w9 hg_k1 k1 f9; have zf_k1 := f.size; have hl_k1 := k1.lt; have z9 := f9.size; replace f := f.trans f9; (try clear r_k1); have r_k1 := k1.cells)
                | (go_at_call 37; (with_reducible refine (l6In_c _ _ _ _).mono ?_); rintro e w9 ⟨rfl, rfl⟩; (try rw [ds]); (try rw [dk]); (try rw [da]); (try rw [db]); (try rw [dm]); (try rw [du]))
                | (go_at_call 38; (with_reducible refine (l1User_c _ _).mono ?_); rintro e w9 ⟨rfl, rfl⟩; (try rw [ds]); (try rw [dk]); (try rw [da]); (try rw [db]); (try rw [dm]); (try rw [du])))
              go_ret
              exact ⟨ret_bool (by simp only [okPk, ds, dk, da, db, dm, du]; first | rfl | simp), f⟩
            | true =>
              cases dv : decide (1 ≤ v ∧ v ≤ 9) with
              | false =>
                go_enter Tryd.func26, Tryd.ntmps26
                go_wp2_with (first
                  | ((with_reducible refine gate_dst (N := 1) rfl ?_); refine wpList_box rfl _ _ rfl #[.int .i64 s, .int .i64 k, .int .i64 a, .int .i64 b, .int .i64 m, .int .i64 u, .int .i64 v] rfl ?_; intro g_k1 w9 hg_k1 k1 f9; have zf_k1 := f.size; have hl_k1 := k1.lt; have z9 := f9.size; replace f := f.trans f9; (try clear r_k1); have r_k1 := k1.cells)
                  | (go_at_call 37; (with_reducible refine (l6In_c _ _ _ _).mono ?_); rintro e w9 ⟨rfl, rfl⟩; (try rw [ds]); (try rw [dk]); (try rw [da]); (try rw [db]); (try rw [dm]); (try rw [du]); (try rw [dv]))
                  | (go_at_call 38; (with_reducible refine (l1User_c _ _).mono ?_); rintro e w9 ⟨rfl, rfl⟩; (try rw [ds]); (try rw [dk]); (try rw [da]); (try rw [db]); (try rw [dm]); (try rw [du]); (try rw [dv])))
                go_ret
                exact ⟨ret_bool (by simp only [okPk, ds, dk, da, db, dm, du, dv]; first | rfl | simp), f⟩
              | true =>
                go_enter Tryd.func26, Tryd.ntmps26
                go_wp2_with (first
                  | ((with_reducible refine gate_dst (N := 1) rfl ?_); refine wpList_box rfl _ _ rfl #[.int .i64 s, .int .i64 k, .int .i64 a, .int .i64 b, .int .i64 m, .int .i64 u, .int .i64 v] rfl ?_; intro g_k1 w9 hg_k1 k1 f9; have zf_k1 := f.size; have hl_k1 := k1.lt; have z9 := f9.size; replace f := f.trans f9; (try clear r_k1); have r_k1 := k1.cells)
                  | (go_at_call 37; (with_reducible refine (l6In_c _ _ _ _).mono ?_); rintro e w9 ⟨rfl, rfl⟩; (try rw [ds]); (try rw [dk]); (try rw [da]); (try rw [db]); (try rw [dm]); (try rw [du]); (try rw [dv]))
                  | (go_at_call 38; (with_reducible refine (l1User_c _ _).mono ?_); rintro e w9 ⟨rfl, rfl⟩; (try rw [ds]); (try rw [dk]); (try rw [da]); (try rw [db]); (try rw [dm]); (try rw [du]); (try rw [dv])))
                go_ret
                exact ⟨ret_bool (by simp only [okPk, ds, dk, da, db, dm, du, dv]; first | rfl | simp), f⟩
theorem okPk_iff {p : Pk} : okPk p = true ↔ 1 ≤ p.seq ∧ p.seq ≤ 8 ∧ 1 ≤ p.kind ∧ p.kind ≤ 2 ∧ 1 ≤ p.frm ∧ p.frm ≤ 3 ∧ 0 ≤ p.dst ∧ p.dst ≤ 3 ∧ 1 ≤ p.sum ∧ p.sum ≤ 9 ∧ 1 ≤ p.til ∧ p.til ≤ 90 ∧ 1 ≤ p.ver ∧ p.ver ≤ 9 := by
  simp only [okPk, Bool.and_eq_true, decide_eq_true_eq, and_assoc]
theorem okPk_yes {p : Pk} (h : 1 ≤ p.seq ∧ p.seq ≤ 8 ∧ 1 ≤ p.kind ∧ p.kind ≤ 2 ∧ 1 ≤ p.frm ∧ p.frm ≤ 3 ∧ 0 ≤ p.dst ∧ p.dst ≤ 3 ∧ 1 ≤ p.sum ∧ p.sum ≤ 9 ∧ 1 ≤ p.til ∧ p.til ≤ 90 ∧ 1 ≤ p.ver ∧ p.ver ≤ 9) : okPk p = true := okPk_iff.2 h
theorem okPk_no {p : Pk} (h : ¬ (1 ≤ p.seq ∧ p.seq ≤ 8 ∧ 1 ≤ p.kind ∧ p.kind ≤ 2 ∧ 1 ≤ p.frm ∧ p.frm ≤ 3 ∧ 0 ≤ p.dst ∧ p.dst ≤ 3 ∧ 1 ≤ p.sum ∧ p.sum ≤ 9 ∧ 1 ≤ p.til ∧ p.til ≤ 90 ∧ 1 ≤ p.ver ∧ p.ver ≤ 9)) : okPk p = false := by
  cases e : okPk p
  · rfl
  · exact absurd (okPk_iff.1 e) h
set_option maxHeartbeats 3200000 in
theorem PacketOk_c (w : World) (p : Pk) : Calls Tryd.prog 16 #[.agg p.cells.toArray] w (Ret (.bool (okPk p)) w) := by
  obtain ⟨s, k, a, b, m, u, v⟩ := p
  have f := Fr.refl w
  go_enter Tryd.func16, Tryd.ntmps16
  go_wp2_with (first
    | ((with_reducible refine gate_dst (N := 1) rfl ?_); refine wpList_box rfl _ _ rfl #[.int .i64 s, .int .i64 k, .int .i64 a, .int .i64 b, .int .i64 m, .int .i64 u, .int .i64 v] rfl ?_; intro g_k1 w9 hg_k1 k1 f9; have zf_k1 := f.size; have hl_k1 := k1.lt; have z9 := f9.size; replace f := f.trans f9; (try clear r_k1); have r_k1 := k1.cells)
    | (go_at_call 34; (with_reducible refine (userOk_c _ _).mono ?_); rintro e w9 ⟨rfl, rfl⟩))
  all_goals
    go_ret
    refine ⟨ret_bool ?_, f⟩
    clear k1 f
    try simp only [bne_iff_ne, ne_eq, bne_eq_false_iff_eq, Bool.not_eq_true', Bool.not_eq_eq_eq_not, Bool.not_true, Bool.not_false, decide_eq_false_iff_not, Bool.not_eq_false', decide_eq_true_eq] at *
    first
      | exact (okPk_no (by simp only []; omega)).symm
      | exact (okPk_yes (by simp only []; omega)).symm
      | (by_cases hv : v ≤ 9; (rw [okPk_yes (by simp only []; omega)]; simp [hv]); (rw [okPk_no (by simp only []; omega)]; simp [hv]))
end Go.Proofs.YtphojlkljlnfjaaDoor
