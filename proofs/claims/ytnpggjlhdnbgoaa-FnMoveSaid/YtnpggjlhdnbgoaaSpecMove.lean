/- The reference's BankMove. -/
import Derived.Test.YtnpggjlhdnbgoaaBankMove
namespace Go.Proofs.Ytnpggjlhdnbgoaa
set_option linter.unusedVariables false
set_option linter.unusedSimpArgs false
open Go.RowKit
theorem okBk_split {b : Bk} (h : okBk b = true) : okL b.own = true ∧ okL b.notes = true ∧ 0 ≤ b.locked ∧ b.own.sum + b.locked = 30 ∧ b.notes.sum ≤ 30 := by
  simp only [okBk, Bool.and_eq_true, decide_eq_true_eq] at h
  exact ⟨h.1.1.1.1, h.1.1.1.2, h.1.1.2, h.1.2, h.2⟩
set_option maxHeartbeats 6400000 in
theorem sBankMove_c (w : World) (b : Bk) (c1 : List Value) (h1 : tBk.rd w b c1) (k fr ds s : Int) (bk : I64 k) (bf : I64 fr) (bd : I64 ds) (bs : I64 s) : Calls Try.prog 31 #[.agg c1.toArray, .int .i64 k, .int .i64 fr, .int .i64 ds, .int .i64 s] w (RetOwn2 tBk (moveR b k fr ds s) w) := by
  obtain ⟨v1, v2, rfl, h11, h12, h13⟩ := h1
  have f := Fr.refl w
  unfold I64 at bk bf bd bs
  cases d1 : okBk b with
  | false =>
    have e := Lib.hid (show moveR b k fr ds s = (nilBk, false) by unfold moveR; rw [if_neg (by simp only [mvOk, d1]; simp)])
    have Dd1 := Lib.hid d1
    clear d1
    go_enter Try.func31, Try.ntmps31
    go_wp2_with (first
      | ((with_reducible refine gate_dst (N := 5) rfl ?_); refine wpList_box rfl _ _ rfl #[v1, v2, .int .i64 b.locked] rfl ?_; intro g_k5 w9 hg_k5 k5 f9; have zf_k5 := f.size; have hl_k5 := k5.lt; have z9 := f9.size; replace f := f.trans f9; (try (replace k10 := k10.fr f9; (try clear r_k10); have r_k10 := k10.cells)); (try (replace k12 := k12.fr f9; (try clear r_k12); have r_k12 := k12.cells)); (try clear r_k5); have r_k5 := k5.cells)
      | ((with_reducible refine gate_dst (N := 10) rfl ?_); refine wpList_alloc rfl _ rfl _ (zero24 _) #[.slice none 0 0, .slice none 0 0, .int .i64 0] rfl ?_; intro g_k10 w9 hg_k10 k10 f9; have zf_k10 := f.size; have hl_k10 := k10.lt; have z9 := f9.size; replace f := f.trans f9; (try (replace k5 := k5.fr f9; (try clear r_k5); have r_k5 := k5.cells)); (try (replace k12 := k12.fr f9; (try clear r_k12); have r_k12 := k12.cells)); (try clear r_k10); have r_k10 := k10.cells)
      | (go_at_call 24; (with_reducible refine (sBankOk_c _ b [v1, v2, .int .i64 b.locked] (tBk_mk (h11.fr f) (h12.fr f) h13)).mono ?_); rintro e w9 ⟨rfl, f9⟩; (try rw [Dd1.out]); have z9 := f9.size; replace f := f.trans f9; (try (replace k5 := k5.fr f9; (try clear r_k5); have r_k5 := k5.cells)); (try (replace k10 := k10.fr f9; (try clear r_k10); have r_k10 := k10.cells)); (try (replace k12 := k12.fr f9; (try clear r_k12); have r_k12 := k12.cells)))
      | (go_at_call 54; (with_reducible refine (l6In_c _ _ _ _).mono ?_); rintro e w9 ⟨rfl, rfl⟩; (try rw [Dd1.out]))
      | (go_at_call 55; (with_reducible refine (l1User_c _ _).mono ?_); rintro e w9 ⟨rfl, rfl⟩; (try rw [Dd1.out]))
      | ((with_reducible refine gate_store (p := 10) rfl ?_); refine wpList_bstore k10 rfl _ _ _ rfl 0 3 rfl (.agg #[.slice none 0 0, .slice none 0 0, .int .i64 0]) rfl #[.slice none 0 0, .slice none 0 0, .int .i64 0] rfl rfl size24 (by simp) (by intro u hu; simp at hu; rcases hu with rfl | rfl <;> rfl) #[.slice none 0 0, .slice none 0 0, .int .i64 0] rfl ?_; intro w9 k9 c9; have z9 := c9.size; replace f := f.own c9 (fun q hq => by have := List.mem_singleton.1 hq; have := f.size; omega); (try (replace k5 := k5.chg c9 (fun hm => by have := List.mem_singleton.1 hm; omega); (try clear r_k5); have r_k5 := k5.cells)); (try (replace k12 := k12.chg c9 (fun hm => by have := List.mem_singleton.1 hm; omega); (try clear r_k12); have r_k12 := k12.cells)); replace k10 := k9; clear k9; (try clear r_k10); have r_k10 := k10.cells))
    exact bodyPost_ret (v := .tuple #[.agg #[.slice none 0 0, .slice none 0 0, .int .i64 0], .bool false]) (results_cell_row2 rfl _ _ g_k10 _ _ _ _ rfl k10.blk Try.underlying24 rfl size24 _ rfl) rfl ⟨[.slice none 0 0, .slice none 0 0, .int .i64 0], [], by rw [e.out], by rw [e.out]; exact nilBk_own _, by simp, by simp, f⟩
  | true =>
  cases d2 : decide (1 ≤ k ∧ k ≤ 2) with
  | false =>
    have e := Lib.hid (show moveR b k fr ds s = (nilBk, false) by unfold moveR; rw [if_neg (by simp only [mvOk, d1, d2]; simp)])
    have Dd1 := Lib.hid d1
    clear d1
    have Dd2 := Lib.hid d2
    clear d2
    go_enter Try.func31, Try.ntmps31
    go_wp2_with (first
      | ((with_reducible refine gate_dst (N := 5) rfl ?_); refine wpList_box rfl _ _ rfl #[v1, v2, .int .i64 b.locked] rfl ?_; intro g_k5 w9 hg_k5 k5 f9; have zf_k5 := f.size; have hl_k5 := k5.lt; have z9 := f9.size; replace f := f.trans f9; (try (replace k10 := k10.fr f9; (try clear r_k10); have r_k10 := k10.cells)); (try (replace k12 := k12.fr f9; (try clear r_k12); have r_k12 := k12.cells)); (try clear r_k5); have r_k5 := k5.cells)
      | ((with_reducible refine gate_dst (N := 10) rfl ?_); refine wpList_alloc rfl _ rfl _ (zero24 _) #[.slice none 0 0, .slice none 0 0, .int .i64 0] rfl ?_; intro g_k10 w9 hg_k10 k10 f9; have zf_k10 := f.size; have hl_k10 := k10.lt; have z9 := f9.size; replace f := f.trans f9; (try (replace k5 := k5.fr f9; (try clear r_k5); have r_k5 := k5.cells)); (try (replace k12 := k12.fr f9; (try clear r_k12); have r_k12 := k12.cells)); (try clear r_k10); have r_k10 := k10.cells)
      | (go_at_call 24; (with_reducible refine (sBankOk_c _ b [v1, v2, .int .i64 b.locked] (tBk_mk (h11.fr f) (h12.fr f) h13)).mono ?_); rintro e w9 ⟨rfl, f9⟩; (try rw [Dd1.out]); (try rw [Dd2.out]); have z9 := f9.size; replace f := f.trans f9; (try (replace k5 := k5.fr f9; (try clear r_k5); have r_k5 := k5.cells)); (try (replace k10 := k10.fr f9; (try clear r_k10); have r_k10 := k10.cells)); (try (replace k12 := k12.fr f9; (try clear r_k12); have r_k12 := k12.cells)))
      | (go_at_call 54; (with_reducible refine (l6In_c _ _ _ _).mono ?_); rintro e w9 ⟨rfl, rfl⟩; (try rw [Dd1.out]); (try rw [Dd2.out]))
      | (go_at_call 55; (with_reducible refine (l1User_c _ _).mono ?_); rintro e w9 ⟨rfl, rfl⟩; (try rw [Dd1.out]); (try rw [Dd2.out]))
      | ((with_reducible refine gate_store (p := 10) rfl ?_); refine wpList_bstore k10 rfl _ _ _ rfl 0 3 rfl (.agg #[.slice none 0 0, .slice none 0 0, .int .i64 0]) rfl #[.slice none 0 0, .slice none 0 0, .int .i64 0] rfl rfl size24 (by simp) (by intro u hu; simp at hu; rcases hu with rfl | rfl <;> rfl) #[.slice none 0 0, .slice none 0 0, .int .i64 0] rfl ?_; intro w9 k9 c9; have z9 := c9.size; replace f := f.own c9 (fun q hq => by have := List.mem_singleton.1 hq; have := f.size; omega); (try (replace k5 := k5.chg c9 (fun hm => by have := List.mem_singleton.1 hm; omega); (try clear r_k5); have r_k5 := k5.cells)); (try (replace k12 := k12.chg c9 (fun hm => by have := List.mem_singleton.1 hm; omega); (try clear r_k12); have r_k12 := k12.cells)); replace k10 := k9; clear k9; (try clear r_k10); have r_k10 := k10.cells))
    exact bodyPost_ret (v := .tuple #[.agg #[.slice none 0 0, .slice none 0 0, .int .i64 0], .bool false]) (results_cell_row2 rfl _ _ g_k10 _ _ _ _ rfl k10.blk Try.underlying24 rfl size24 _ rfl) rfl ⟨[.slice none 0 0, .slice none 0 0, .int .i64 0], [], by rw [e.out], by rw [e.out]; exact nilBk_own _, by simp, by simp, f⟩
  | true =>
  cases d3 : decide (1 ≤ fr ∧ fr ≤ 3) with
  | false =>
    have e := Lib.hid (show moveR b k fr ds s = (nilBk, false) by unfold moveR; rw [if_neg (by simp only [mvOk, d1, d2, d3]; simp)])
    have Dd1 := Lib.hid d1
    clear d1
    have Dd2 := Lib.hid d2
    clear d2
    have Dd3 := Lib.hid d3
    clear d3
    go_enter Try.func31, Try.ntmps31
    go_wp2_with (first
      | ((with_reducible refine gate_dst (N := 5) rfl ?_); refine wpList_box rfl _ _ rfl #[v1, v2, .int .i64 b.locked] rfl ?_; intro g_k5 w9 hg_k5 k5 f9; have zf_k5 := f.size; have hl_k5 := k5.lt; have z9 := f9.size; replace f := f.trans f9; (try (replace k10 := k10.fr f9; (try clear r_k10); have r_k10 := k10.cells)); (try (replace k12 := k12.fr f9; (try clear r_k12); have r_k12 := k12.cells)); (try clear r_k5); have r_k5 := k5.cells)
      | ((with_reducible refine gate_dst (N := 10) rfl ?_); refine wpList_alloc rfl _ rfl _ (zero24 _) #[.slice none 0 0, .slice none 0 0, .int .i64 0] rfl ?_; intro g_k10 w9 hg_k10 k10 f9; have zf_k10 := f.size; have hl_k10 := k10.lt; have z9 := f9.size; replace f := f.trans f9; (try (replace k5 := k5.fr f9; (try clear r_k5); have r_k5 := k5.cells)); (try (replace k12 := k12.fr f9; (try clear r_k12); have r_k12 := k12.cells)); (try clear r_k10); have r_k10 := k10.cells)
      | (go_at_call 24; (with_reducible refine (sBankOk_c _ b [v1, v2, .int .i64 b.locked] (tBk_mk (h11.fr f) (h12.fr f) h13)).mono ?_); rintro e w9 ⟨rfl, f9⟩; (try rw [Dd1.out]); (try rw [Dd2.out]); (try rw [Dd3.out]); have z9 := f9.size; replace f := f.trans f9; (try (replace k5 := k5.fr f9; (try clear r_k5); have r_k5 := k5.cells)); (try (replace k10 := k10.fr f9; (try clear r_k10); have r_k10 := k10.cells)); (try (replace k12 := k12.fr f9; (try clear r_k12); have r_k12 := k12.cells)))
      | (go_at_call 54; (with_reducible refine (l6In_c _ _ _ _).mono ?_); rintro e w9 ⟨rfl, rfl⟩; (try rw [Dd1.out]); (try rw [Dd2.out]); (try rw [Dd3.out]))
      | (go_at_call 55; (with_reducible refine (l1User_c _ _).mono ?_); rintro e w9 ⟨rfl, rfl⟩; (try rw [Dd1.out]); (try rw [Dd2.out]); (try rw [Dd3.out]))
      | ((with_reducible refine gate_store (p := 10) rfl ?_); refine wpList_bstore k10 rfl _ _ _ rfl 0 3 rfl (.agg #[.slice none 0 0, .slice none 0 0, .int .i64 0]) rfl #[.slice none 0 0, .slice none 0 0, .int .i64 0] rfl rfl size24 (by simp) (by intro u hu; simp at hu; rcases hu with rfl | rfl <;> rfl) #[.slice none 0 0, .slice none 0 0, .int .i64 0] rfl ?_; intro w9 k9 c9; have z9 := c9.size; replace f := f.own c9 (fun q hq => by have := List.mem_singleton.1 hq; have := f.size; omega); (try (replace k5 := k5.chg c9 (fun hm => by have := List.mem_singleton.1 hm; omega); (try clear r_k5); have r_k5 := k5.cells)); (try (replace k12 := k12.chg c9 (fun hm => by have := List.mem_singleton.1 hm; omega); (try clear r_k12); have r_k12 := k12.cells)); replace k10 := k9; clear k9; (try clear r_k10); have r_k10 := k10.cells))
    exact bodyPost_ret (v := .tuple #[.agg #[.slice none 0 0, .slice none 0 0, .int .i64 0], .bool false]) (results_cell_row2 rfl _ _ g_k10 _ _ _ _ rfl k10.blk Try.underlying24 rfl size24 _ rfl) rfl ⟨[.slice none 0 0, .slice none 0 0, .int .i64 0], [], by rw [e.out], by rw [e.out]; exact nilBk_own _, by simp, by simp, f⟩
  | true =>
  cases d4 : decide (1 ≤ ds ∧ ds ≤ 3) with
  | false =>
    have e := Lib.hid (show moveR b k fr ds s = (nilBk, false) by unfold moveR; rw [if_neg (by simp only [mvOk, d1, d2, d3, d4]; simp)])
    have Dd1 := Lib.hid d1
    clear d1
    have Dd2 := Lib.hid d2
    clear d2
    have Dd3 := Lib.hid d3
    clear d3
    have Dd4 := Lib.hid d4
    clear d4
    go_enter Try.func31, Try.ntmps31
    go_wp2_with (first
      | ((with_reducible refine gate_dst (N := 5) rfl ?_); refine wpList_box rfl _ _ rfl #[v1, v2, .int .i64 b.locked] rfl ?_; intro g_k5 w9 hg_k5 k5 f9; have zf_k5 := f.size; have hl_k5 := k5.lt; have z9 := f9.size; replace f := f.trans f9; (try (replace k10 := k10.fr f9; (try clear r_k10); have r_k10 := k10.cells)); (try (replace k12 := k12.fr f9; (try clear r_k12); have r_k12 := k12.cells)); (try clear r_k5); have r_k5 := k5.cells)
      | ((with_reducible refine gate_dst (N := 10) rfl ?_); refine wpList_alloc rfl _ rfl _ (zero24 _) #[.slice none 0 0, .slice none 0 0, .int .i64 0] rfl ?_; intro g_k10 w9 hg_k10 k10 f9; have zf_k10 := f.size; have hl_k10 := k10.lt; have z9 := f9.size; replace f := f.trans f9; (try (replace k5 := k5.fr f9; (try clear r_k5); have r_k5 := k5.cells)); (try (replace k12 := k12.fr f9; (try clear r_k12); have r_k12 := k12.cells)); (try clear r_k10); have r_k10 := k10.cells)
      | (go_at_call 24; (with_reducible refine (sBankOk_c _ b [v1, v2, .int .i64 b.locked] (tBk_mk (h11.fr f) (h12.fr f) h13)).mono ?_); rintro e w9 ⟨rfl, f9⟩; (try rw [Dd1.out]); (try rw [Dd2.out]); (try rw [Dd3.out]); (try rw [Dd4.out]); have z9 := f9.size; replace f := f.trans f9; (try (replace k5 := k5.fr f9; (try clear r_k5); have r_k5 := k5.cells)); (try (replace k10 := k10.fr f9; (try clear r_k10); have r_k10 := k10.cells)); (try (replace k12 := k12.fr f9; (try clear r_k12); have r_k12 := k12.cells)))
      | (go_at_call 54; (with_reducible refine (l6In_c _ _ _ _).mono ?_); rintro e w9 ⟨rfl, rfl⟩; (try rw [Dd1.out]); (try rw [Dd2.out]); (try rw [Dd3.out]); (try rw [Dd4.out]))
      | (go_at_call 55; (with_reducible refine (l1User_c _ _).mono ?_); rintro e w9 ⟨rfl, rfl⟩; (try rw [Dd1.out]); (try rw [Dd2.out]); (try rw [Dd3.out]); (try rw [Dd4.out]))
      | ((with_reducible refine gate_store (p := 10) rfl ?_); refine wpList_bstore k10 rfl _ _ _ rfl 0 3 rfl (.agg #[.slice none 0 0, .slice none 0 0, .int .i64 0]) rfl #[.slice none 0 0, .slice none 0 0, .int .i64 0] rfl rfl size24 (by simp) (by intro u hu; simp at hu; rcases hu with rfl | rfl <;> rfl) #[.slice none 0 0, .slice none 0 0, .int .i64 0] rfl ?_; intro w9 k9 c9; have z9 := c9.size; replace f := f.own c9 (fun q hq => by have := List.mem_singleton.1 hq; have := f.size; omega); (try (replace k5 := k5.chg c9 (fun hm => by have := List.mem_singleton.1 hm; omega); (try clear r_k5); have r_k5 := k5.cells)); (try (replace k12 := k12.chg c9 (fun hm => by have := List.mem_singleton.1 hm; omega); (try clear r_k12); have r_k12 := k12.cells)); replace k10 := k9; clear k9; (try clear r_k10); have r_k10 := k10.cells))
    exact bodyPost_ret (v := .tuple #[.agg #[.slice none 0 0, .slice none 0 0, .int .i64 0], .bool false]) (results_cell_row2 rfl _ _ g_k10 _ _ _ _ rfl k10.blk Try.underlying24 rfl size24 _ rfl) rfl ⟨[.slice none 0 0, .slice none 0 0, .int .i64 0], [], by rw [e.out], by rw [e.out]; exact nilBk_own _, by simp, by simp, f⟩
  | true =>
  obtain ⟨q1, q2, q3, q4, q5⟩ := okBk_split d1
  have hk2 := of_decide_eq_true d2
  have hfr := of_decide_eq_true d3
  have hds := of_decide_eq_true d4
  by_cases hs : s < 0
  · skip
    have e := Lib.hid (show moveR b k fr ds s = (nilBk, false) by unfold moveR; rw [if_neg (by simp only [mvOk, d1, d2, d3, d4]; simp; intro h; omega)])
    have Dd1 := Lib.hid d1
    clear d1
    have Dd2 := Lib.hid d2
    clear d2
    have Dd3 := Lib.hid d3
    clear d3
    have Dd4 := Lib.hid d4
    clear d4
    go_enter Try.func31, Try.ntmps31
    go_wp2_with (first
      | ((with_reducible refine gate_dst (N := 5) rfl ?_); refine wpList_box rfl _ _ rfl #[v1, v2, .int .i64 b.locked] rfl ?_; intro g_k5 w9 hg_k5 k5 f9; have zf_k5 := f.size; have hl_k5 := k5.lt; have z9 := f9.size; replace f := f.trans f9; (try (replace k10 := k10.fr f9; (try clear r_k10); have r_k10 := k10.cells)); (try (replace k12 := k12.fr f9; (try clear r_k12); have r_k12 := k12.cells)); (try clear r_k5); have r_k5 := k5.cells)
      | ((with_reducible refine gate_dst (N := 10) rfl ?_); refine wpList_alloc rfl _ rfl _ (zero24 _) #[.slice none 0 0, .slice none 0 0, .int .i64 0] rfl ?_; intro g_k10 w9 hg_k10 k10 f9; have zf_k10 := f.size; have hl_k10 := k10.lt; have z9 := f9.size; replace f := f.trans f9; (try (replace k5 := k5.fr f9; (try clear r_k5); have r_k5 := k5.cells)); (try (replace k12 := k12.fr f9; (try clear r_k12); have r_k12 := k12.cells)); (try clear r_k10); have r_k10 := k10.cells)
      | (go_at_call 24; (with_reducible refine (sBankOk_c _ b [v1, v2, .int .i64 b.locked] (tBk_mk (h11.fr f) (h12.fr f) h13)).mono ?_); rintro e w9 ⟨rfl, f9⟩; (try rw [Dd1.out]); (try rw [Dd2.out]); (try rw [Dd3.out]); (try rw [Dd4.out]); have z9 := f9.size; replace f := f.trans f9; (try (replace k5 := k5.fr f9; (try clear r_k5); have r_k5 := k5.cells)); (try (replace k10 := k10.fr f9; (try clear r_k10); have r_k10 := k10.cells)); (try (replace k12 := k12.fr f9; (try clear r_k12); have r_k12 := k12.cells)))
      | (go_at_call 54; (with_reducible refine (l6In_c _ _ _ _).mono ?_); rintro e w9 ⟨rfl, rfl⟩; (try rw [Dd1.out]); (try rw [Dd2.out]); (try rw [Dd3.out]); (try rw [Dd4.out]))
      | (go_at_call 55; (with_reducible refine (l1User_c _ _).mono ?_); rintro e w9 ⟨rfl, rfl⟩; (try rw [Dd1.out]); (try rw [Dd2.out]); (try rw [Dd3.out]); (try rw [Dd4.out]))
      | ((with_reducible refine gate_store (p := 10) rfl ?_); refine wpList_bstore k10 rfl _ _ _ rfl 0 3 rfl (.agg #[.slice none 0 0, .slice none 0 0, .int .i64 0]) rfl #[.slice none 0 0, .slice none 0 0, .int .i64 0] rfl rfl size24 (by simp) (by intro u hu; simp at hu; rcases hu with rfl | rfl <;> rfl) #[.slice none 0 0, .slice none 0 0, .int .i64 0] rfl ?_; intro w9 k9 c9; have z9 := c9.size; replace f := f.own c9 (fun q hq => by have := List.mem_singleton.1 hq; have := f.size; omega); (try (replace k5 := k5.chg c9 (fun hm => by have := List.mem_singleton.1 hm; omega); (try clear r_k5); have r_k5 := k5.cells)); (try (replace k12 := k12.chg c9 (fun hm => by have := List.mem_singleton.1 hm; omega); (try clear r_k12); have r_k12 := k12.cells)); replace k10 := k9; clear k9; (try clear r_k10); have r_k10 := k10.cells))
    exact bodyPost_ret (v := .tuple #[.agg #[.slice none 0 0, .slice none 0 0, .int .i64 0], .bool false]) (results_cell_row2 rfl _ _ g_k10 _ _ _ _ rfl k10.blk Try.underlying24 rfl size24 _ rfl) rfl ⟨[.slice none 0 0, .slice none 0 0, .int .i64 0], [], by rw [e.out], by rw [e.out]; exact nilBk_own _, by simp, by simp, f⟩
  have hs0 : 0 ≤ s := by omega
  have hsf : decide (s < 0) = false := decide_eq_false hs
  have ln1 := okL_len q1
  have ln2 := okL_len q2
  obtain ⟨A1, p1, rfl⟩ : ∃ A c, v1 = .slice A 3 c := by obtain ⟨A, c, h⟩ := h11.val; exact ⟨A, c, by rw [h, ln1]⟩
  obtain ⟨A2, p2, rfl⟩ : ∃ A c, v2 = .slice A 3 c := by obtain ⟨A, c, h⟩ := h12.val; exact ⟨A, c, by rw [h, ln2]⟩
  have HL := Lib.hid (show (0 < b.own.length ∧ 0 < b.notes.length) ∧ (b.own.length ≤ 2097152 ∧ b.notes.length ≤ 2097152) by omega)
  have LN1 := Lib.hid ln1
  have LN2 := Lib.hid ln2
  have Li : (fr.toNat - 1) < 3 := by omega
  have Lj : (ds.toNat - 1) < 3 := by omega
  have hk' : k = 1 ∨ k = 2 := by omega
  rcases hk' with rfl | rfl
  · skip
    obtain ⟨ad, ea, hc⟩ := row_int_at h11 (fr.toNat - 1) (by omega)
    subst ea
    rw [at0_get (by omega)] at hc
    have bx := okL_get q1 (fr.toNat - 1) (by omega)
    rw [at0_get (by omega)] at bx
    obtain ⟨x, hx⟩ : ∃ x, at0 b.own (fr.toNat - 1) = x := ⟨_, rfl⟩
    rw [hx] at hc bx
    by_cases hlt : x < s
    · skip
      have e := Lib.hid (show moveR b 1 fr ds s = (nilBk, false) from moveR_no d1 hk2 hfr hds hs0 (by show ¬ s ≤ at0 b.own (fr.toNat - 1); rw [hx]; omega))
      have Dd1 := Lib.hid d1
      clear d1
      have Dd2 := Lib.hid d2
      clear d2
      have Dd3 := Lib.hid d3
      clear d3
      have Dd4 := Lib.hid d4
      clear d4
      clear ln1 ln2
      go_enter Try.func31, Try.ntmps31
      go_wp2_with (first
        | ((with_reducible refine gate_dst (N := 5) rfl ?_); refine wpList_box rfl _ _ rfl #[.slice (some ad) 3 p1, .slice A2 3 p2, .int .i64 b.locked] rfl ?_; intro g_k5 w9 hg_k5 k5 f9; have zf_k5 := f.size; have hl_k5 := k5.lt; have z9 := f9.size; replace f := f.trans f9; (try (replace k10 := k10.fr f9; (try clear r_k10); have r_k10 := k10.cells)); (try (replace k12 := k12.fr f9; (try clear r_k12); have r_k12 := k12.cells)); (try clear r_k5); have r_k5 := k5.cells)
        | ((with_reducible refine gate_dst (N := 10) rfl ?_); refine wpList_alloc rfl _ rfl _ (zero24 _) #[.slice none 0 0, .slice none 0 0, .int .i64 0] rfl ?_; intro g_k10 w9 hg_k10 k10 f9; have zf_k10 := f.size; have hl_k10 := k10.lt; have z9 := f9.size; replace f := f.trans f9; (try (replace k5 := k5.fr f9; (try clear r_k5); have r_k5 := k5.cells)); (try (replace k12 := k12.fr f9; (try clear r_k12); have r_k12 := k12.cells)); (try clear r_k10); have r_k10 := k10.cells)
        | (go_at_call 24; (with_reducible refine (sBankOk_c _ b [.slice (some ad) 3 p1, .slice A2 3 p2, .int .i64 b.locked] (tBk_mk (h11.fr f) (h12.fr f) h13)).mono ?_); rintro e w9 ⟨rfl, f9⟩; (try rw [Dd1.out]); (try rw [Dd2.out]); (try rw [Dd3.out]); (try rw [Dd4.out]); have z9 := f9.size; replace f := f.trans f9; (try (replace k5 := k5.fr f9; (try clear r_k5); have r_k5 := k5.cells)); (try (replace k10 := k10.fr f9; (try clear r_k10); have r_k10 := k10.cells)); (try (replace k12 := k12.fr f9; (try clear r_k12); have r_k12 := k12.cells)))
        | (go_at_call 54; (with_reducible refine (l6In_c _ _ _ _).mono ?_); rintro e w9 ⟨rfl, rfl⟩; (try rw [Dd1.out]); (try rw [Dd2.out]); (try rw [Dd3.out]); (try rw [Dd4.out]))
        | (go_at_call 55; (with_reducible refine (l1User_c _ _).mono ?_); rintro e w9 ⟨rfl, rfl⟩; (try rw [Dd1.out]); (try rw [Dd2.out]); (try rw [Dd3.out]); (try rw [Dd4.out]))
        | (go_at_call 56; (with_reducible refine (l1List1_c _ (.slice (some ad) 3 p1) (.slice A2 3 p2) (.int .i64 b.locked)).mono ?_); rintro e w9 ⟨rfl, f9⟩; have z9 := f9.size; replace f := f.trans f9; (try (replace k5 := k5.fr f9; (try clear r_k5); have r_k5 := k5.cells)); (try (replace k10 := k10.fr f9; (try clear r_k10); have r_k10 := k10.cells)); (try (replace k12 := k12.fr f9; (try clear r_k12); have r_k12 := k12.cells)); (try clear hcx); have hcx := f.cell hc)
        | ((with_reducible refine gate_store (p := 10) rfl ?_); refine wpList_bstore k10 rfl _ _ _ rfl 0 3 rfl (.agg #[.slice none 0 0, .slice none 0 0, .int .i64 0]) rfl #[.slice none 0 0, .slice none 0 0, .int .i64 0] rfl rfl size24 (by simp) (by intro u hu; simp at hu; rcases hu with rfl | rfl <;> rfl) #[.slice none 0 0, .slice none 0 0, .int .i64 0] rfl ?_; intro w9 k9 c9; have z9 := c9.size; replace f := f.own c9 (fun q hq => by have := List.mem_singleton.1 hq; have := f.size; omega); (try (replace k5 := k5.chg c9 (fun hm => by have := List.mem_singleton.1 hm; omega); (try clear r_k5); have r_k5 := k5.cells)); (try (replace k12 := k12.chg c9 (fun hm => by have := List.mem_singleton.1 hm; omega); (try clear r_k12); have r_k12 := k12.cells)); replace k10 := k9; clear k9; (try clear r_k10); have r_k10 := k10.cells))
      exact bodyPost_ret (v := .tuple #[.agg #[.slice none 0 0, .slice none 0 0, .int .i64 0], .bool false]) (results_cell_row2 rfl _ _ g_k10 _ _ _ _ rfl k10.blk Try.underlying24 rfl size24 _ rfl) rfl ⟨[.slice none 0 0, .slice none 0 0, .int .i64 0], [], by rw [e.out], by rw [e.out]; exact nilBk_own _, by simp, by simp, f⟩
    have LI := Lib.hid (show (fr.toNat - 1) < b.own.length by omega)
    have hle : s ≤ x := by omega
    have ltf : decide (x < s) = false := decide_eq_false hlt
    obtain ⟨ys, hys⟩ : ∃ ys, addAt b.own (fr.toNat - 1) (-s) = ys := ⟨_, rfl⟩
    have hyl : ys.length = 3 := by rw [← hys, addAt_len]; exact ln1
    have hy1 : b.own.set (fr.toNat - 1) (x - s) = ys := by rw [← hys, addAt, hx, show x - s = x + -s from Int.sub_eq_add_neg]
    have by' : 0 ≤ at0 ys (ds.toNat - 1) ∧ at0 ys (ds.toNat - 1) ≤ 30 := by
      have bz := okL_get q1 (ds.toNat - 1) (by omega)
      rw [at0_get (by omega)] at bz
      rw [← hys, at0_addAt _ _ _ _ (by omega), hx]
      split <;> omega
    obtain ⟨y, hy⟩ : ∃ y, at0 ys (ds.toNat - 1) = y := ⟨_, rfl⟩
    rw [hy] at by'
    obtain ⟨zs, hzs⟩ : ∃ zs, addAt ys (ds.toNat - 1) s = zs := ⟨_, rfl⟩
    have hz1 : ys.set (ds.toNat - 1) (y + s) = zs := by rw [← hzs, addAt, hy]
    have e := Lib.hid (show moveR b 1 fr ds s = ((⟨zs, b.notes, b.locked⟩ : Bk), true) by rw [moveR_yes d1 hk2 hfr hds hs0 (by show s ≤ at0 b.own (fr.toNat - 1); rw [hx]; omega)]; show (setLst b 1 (addAt (addAt b.own (fr.toNat - 1) (-s)) (ds.toNat - 1) s), true) = _; rw [hys, hzs]; rfl)
    have Q := Lib.hid (show tBk.rd w b [.slice (some ad) 3 p1, .slice A2 3 p2, .int .i64 b.locked] from tBk_mk h11 h12 h13)
    have HY := Lib.hid hy1
    have HZ := Lib.hid hz1
    have HX := Lib.hid hx
    have HYY := Lib.hid hy
    have LJ := Lib.hid (show (ds.toNat - 1) < ys.length by omega)
    clear ln1 ln2 hyl hys hzs hy1 hz1 hx hy
    have Dd1 := Lib.hid d1
    clear d1
    have Dd2 := Lib.hid d2
    clear d2
    have Dd3 := Lib.hid d3
    clear d3
    have Dd4 := Lib.hid d4
    clear d4
    go_enter Try.func31, Try.ntmps31
    go_wp2_with (first
      | ((with_reducible refine gate_dst (N := 5) rfl ?_); refine wpList_box rfl _ _ rfl #[.slice (some ad) 3 p1, .slice A2 3 p2, .int .i64 b.locked] rfl ?_; intro g_k5 w9 hg_k5 k5 f9; have zf_k5 := f.size; have hl_k5 := k5.lt; have z9 := f9.size; replace f := f.trans f9; (try replace ho1 := ho1.fr f9); (try replace ho2 := ho2.fr f9); (try (replace k10 := k10.fr f9; (try clear r_k10); have r_k10 := k10.cells)); (try (replace k12 := k12.fr f9; (try clear r_k12); have r_k12 := k12.cells)); (try clear r_k5); have r_k5 := k5.cells)
      | ((with_reducible refine gate_dst (N := 10) rfl ?_); refine wpList_alloc rfl _ rfl _ (zero24 _) #[.slice none 0 0, .slice none 0 0, .int .i64 0] rfl ?_; intro g_k10 w9 hg_k10 k10 f9; have zf_k10 := f.size; have hl_k10 := k10.lt; have z9 := f9.size; replace f := f.trans f9; (try replace ho1 := ho1.fr f9); (try replace ho2 := ho2.fr f9); (try (replace k5 := k5.fr f9; (try clear r_k5); have r_k5 := k5.cells)); (try (replace k12 := k12.fr f9; (try clear r_k12); have r_k12 := k12.cells)); (try clear r_k10); have r_k10 := k10.cells)
      | ((with_reducible refine gate_dst (N := 12) rfl ?_); refine wpList_alloc rfl _ rfl _ (zero24 _) #[.slice none 0 0, .slice none 0 0, .int .i64 0] rfl ?_; intro g_k12 w9 hg_k12 k12 f9; have zf_k12 := f.size; have hl_k12 := k12.lt; have z9 := f9.size; replace f := f.trans f9; (try replace ho1 := ho1.fr f9); (try replace ho2 := ho2.fr f9); (try (replace k5 := k5.fr f9; (try clear r_k5); have r_k5 := k5.cells)); (try (replace k10 := k10.fr f9; (try clear r_k10); have r_k10 := k10.cells)); (try clear r_k12); have r_k12 := k12.cells)
      | (go_at_call 24; (with_reducible refine (sBankOk_c _ b [.slice (some ad) 3 p1, .slice A2 3 p2, .int .i64 b.locked] (tBk_mk (h11.fr f) (h12.fr f) h13)).mono ?_); rintro e w9 ⟨rfl, f9⟩; (try rw [Dd1.out]); (try rw [Dd2.out]); (try rw [Dd3.out]); (try rw [Dd4.out]); have z9 := f9.size; replace f := f.trans f9; (try replace ho1 := ho1.fr f9); (try replace ho2 := ho2.fr f9); (try (replace k5 := k5.fr f9; (try clear r_k5); have r_k5 := k5.cells)); (try (replace k10 := k10.fr f9; (try clear r_k10); have r_k10 := k10.cells)); (try (replace k12 := k12.fr f9; (try clear r_k12); have r_k12 := k12.cells)))
      | (go_at_call 54; (with_reducible refine (l6In_c _ _ _ _).mono ?_); rintro e w9 ⟨rfl, rfl⟩; (try rw [Dd1.out]); (try rw [Dd2.out]); (try rw [Dd3.out]); (try rw [Dd4.out]))
      | (go_at_call 55; (with_reducible refine (l1User_c _ _).mono ?_); rintro e w9 ⟨rfl, rfl⟩; (try rw [Dd1.out]); (try rw [Dd2.out]); (try rw [Dd3.out]); (try rw [Dd4.out]))
      | (go_at_call 56; (with_reducible refine (l1List1_c _ (.slice (some ad) 3 p1) (.slice A2 3 p2) (.int .i64 b.locked)).mono ?_); rintro e w9 ⟨rfl, f9⟩; have z9 := f9.size; replace f := f.trans f9; (try replace ho1 := ho1.fr f9); (try replace ho2 := ho2.fr f9); (try (replace k5 := k5.fr f9; (try clear r_k5); have r_k5 := k5.cells)); (try (replace k10 := k10.fr f9; (try clear r_k10); have r_k10 := k10.cells)); (try (replace k12 := k12.fr f9; (try clear r_k12); have r_k12 := k12.cells)); (try clear hcx); have hcx := f.cell hc)
      | (go_at_call 57; (with_reducible refine (l1Copy_c _ b [.slice (some ad) 3 p1, .slice A2 3 p2, .int .i64 b.locked] (Q.out.fr f) HL.out.1 HL.out.2).mono ?_); rintro e w9 ⟨_, F, rfl, ⟨o1, o2, F1, F2, rfl, rfl, ho1, ho2, _⟩, hn, hb0, f9⟩; obtain ⟨g1, cp1, e1⟩ := ho1.shape HL.out.1.1; obtain ⟨g2, cp2, e2⟩ := ho2.shape HL.out.1.2; rw [LN1.out] at e1; rw [LN2.out] at e2; subst e1 e2; have hb1 := fun g hg => hb0 g (List.mem_append_left _ hg); have hb2 := fun g hg => hb0 g (List.mem_append_right _ hg); have hu1 := ho1.lt; have hu2 := ho2.lt; have DJ := (List.nodup_append.1 hn).2.2; have z9 := f9.size; replace f := f.trans f9; (try replace ho1 := ho1.fr f9); (try replace ho2 := ho2.fr f9); (try (replace k5 := k5.fr f9; (try clear r_k5); have r_k5 := k5.cells)); (try (replace k10 := k10.fr f9; (try clear r_k10); have r_k10 := k10.cells)); (try (replace k12 := k12.fr f9; (try clear r_k12); have r_k12 := k12.cells)))
      | (go_at_call 56; (with_reducible refine (l1List1_c _ (.slice (some ⟨g1, 0, none⟩) 3 cp1) (.slice (some ⟨g2, 0, none⟩) 3 cp2) (.int .i64 b.locked)).mono ?_); rintro e w9 ⟨rfl, f9⟩; have z9 := f9.size; replace f := f.trans f9; (try replace ho1 := ho1.fr f9); (try replace ho2 := ho2.fr f9); (try (replace k5 := k5.fr f9; (try clear r_k5); have r_k5 := k5.cells)); (try (replace k10 := k10.fr f9; (try clear r_k10); have r_k10 := k10.cells)); (try (replace k12 := k12.fr f9; (try clear r_k12); have r_k12 := k12.cells)); have hcy := orow_cell ho1 (i := (fr.toNat - 1)) LI.out; rw [at0_get LI.out, HX.out] at hcy)
      | ((with_reducible refine gate_store (p := 12) rfl ?_); refine wpList_bstore k12 rfl _ _ _ rfl 0 3 rfl (.agg #[.slice (some ⟨g1, 0, none⟩) 3 cp1, .slice (some ⟨g2, 0, none⟩) 3 cp2, .int .i64 b.locked]) rfl #[.slice (some ⟨g1, 0, none⟩) 3 cp1, .slice (some ⟨g2, 0, none⟩) 3 cp2, .int .i64 b.locked] rfl rfl size24 (by simp) (by intro u hu; simp at hu; rcases hu with rfl | rfl | rfl; exact ho1.one; exact ho2.one; rfl) #[.slice (some ⟨g1, 0, none⟩) 3 cp1, .slice (some ⟨g2, 0, none⟩) 3 cp2, .int .i64 b.locked] rfl ?_; intro w9 k9 c9; have z9 := c9.size; replace f := f.own c9 (fun q hq => by have := List.mem_singleton.1 hq; have := f.size; omega); (try replace ho1 := ho1.chg c9 (fun q hq hm => by have := hb1 q hq; have := hu1 q hq; have := List.mem_singleton.1 hm; omega)); (try replace ho2 := ho2.chg c9 (fun q hq hm => by have := hb2 q hq; have := hu2 q hq; have := List.mem_singleton.1 hm; omega)); (try (replace k5 := k5.chg c9 (fun hm => by have := List.mem_singleton.1 hm; omega); (try clear r_k5); have r_k5 := k5.cells)); (try (replace k10 := k10.chg c9 (fun hm => by have := List.mem_singleton.1 hm; omega); (try clear r_k10); have r_k10 := k10.cells)); replace k12 := k9; clear k9; (try clear r_k12); have r_k12 := k12.cells)
      | ((with_reducible refine gate_dst (N := 50) rfl ?_); refine wpList_bload k12 rfl _ _ rfl 0 3 rfl _ Try.underlying24 rfl size24 (by simp) #[.slice (some ⟨g1, 0, none⟩) 3 cp1, .slice (some ⟨g2, 0, none⟩) 3 cp2, .int .i64 b.locked] rfl ?_)
      | ((with_reducible refine gate_store (p := 63) rfl ?_); refine wpList_ostore ho1 (i := (fr.toNat - 1)) LI.out rfl _ _ _ rfl rfl (x - s) rfl size3 ?_; intro w9 h9 c9; rw [HY.out] at h9; have z9 := c9.size; replace f := f.own c9 (fun q hq => by have := hb1 q hq; omega); replace ho1 := h9; replace ho2 := ho2.chg c9 (fun q hq hm => DJ q hm q hq rfl); (replace k5 := k5.chg c9 (fun hm => by have := hb1 _ hm; have := hu1 _ hm; omega)); (replace k10 := k10.chg c9 (fun hm => by have := hb1 _ hm; have := hu1 _ hm; omega)); (replace k12 := k12.chg c9 (fun hm => by have := hb1 _ hm; have := hu1 _ hm; omega)); (try clear r_k5); (try clear r_k10); (try clear r_k12); have r_k12 := k12.cells; (try clear hcy); have hcy := orow_cell ho1 (i := (ds.toNat - 1)) LJ.out; rw [at0_get LJ.out, HYY.out] at hcy)
      | ((with_reducible refine gate_store (p := 74) rfl ?_); refine wpList_ostore ho1 (i := (ds.toNat - 1)) LJ.out rfl _ _ _ rfl rfl (y + s) rfl size3 ?_; intro w9 h9 c9; rw [HZ.out] at h9; have z9 := c9.size; replace f := f.own c9 (fun q hq => by have := hb1 q hq; omega); replace ho1 := h9; replace ho2 := ho2.chg c9 (fun q hq hm => DJ q hm q hq rfl); (replace k5 := k5.chg c9 (fun hm => by have := hb1 _ hm; have := hu1 _ hm; omega)); (replace k10 := k10.chg c9 (fun hm => by have := hb1 _ hm; have := hu1 _ hm; omega)); (replace k12 := k12.chg c9 (fun hm => by have := hb1 _ hm; have := hu1 _ hm; omega)); (try clear r_k5); (try clear r_k10); (try clear r_k12); have r_k12 := k12.cells; (try clear hcy); skip)
      | ((with_reducible refine gate_dst (N := 75) rfl ?_); refine wpList_bload k12 rfl _ _ rfl 0 3 rfl _ Try.underlying24 rfl size24 (by simp) #[.slice (some ⟨g1, 0, none⟩) 3 cp1, .slice (some ⟨g2, 0, none⟩) 3 cp2, .int .i64 b.locked] rfl ?_)
      | ((with_reducible refine gate_store (p := 10) rfl ?_); refine wpList_bstore k10 rfl _ _ _ rfl 0 3 rfl (.agg #[.slice (some ⟨g1, 0, none⟩) 3 cp1, .slice (some ⟨g2, 0, none⟩) 3 cp2, .int .i64 b.locked]) rfl #[.slice (some ⟨g1, 0, none⟩) 3 cp1, .slice (some ⟨g2, 0, none⟩) 3 cp2, .int .i64 b.locked] rfl rfl size24 (by simp) (by intro u hu; simp at hu; rcases hu with rfl | rfl | rfl; exact ho1.one; exact ho2.one; rfl) #[.slice (some ⟨g1, 0, none⟩) 3 cp1, .slice (some ⟨g2, 0, none⟩) 3 cp2, .int .i64 b.locked] rfl ?_; intro w9 k9 c9; have z9 := c9.size; replace f := f.own c9 (fun q hq => by have := List.mem_singleton.1 hq; have := f.size; omega); (try replace ho1 := ho1.chg c9 (fun q hq hm => by have := hb1 q hq; have := hu1 q hq; have := List.mem_singleton.1 hm; omega)); (try replace ho2 := ho2.chg c9 (fun q hq hm => by have := hb2 q hq; have := hu2 q hq; have := List.mem_singleton.1 hm; omega)); (try (replace k5 := k5.chg c9 (fun hm => by have := List.mem_singleton.1 hm; omega); (try clear r_k5); have r_k5 := k5.cells)); (try (replace k12 := k12.chg c9 (fun hm => by have := List.mem_singleton.1 hm; omega); (try clear r_k12); have r_k12 := k12.cells)); replace k10 := k9; clear k9; (try clear r_k10); have r_k10 := k10.cells))
    exact bodyPost_ret (v := .tuple #[.agg #[.slice (some ⟨g1, 0, none⟩) 3 cp1, .slice (some ⟨g2, 0, none⟩) 3 cp2, .int .i64 b.locked], .bool true]) (results_cell_row2 rfl _ _ g_k10 _ _ _ _ rfl k10.blk Try.underlying24 rfl size24 _ rfl) rfl ⟨[.slice (some ⟨g1, 0, none⟩) 3 cp1, .slice (some ⟨g2, 0, none⟩) 3 cp2, .int .i64 b.locked], F1 ++ F2, by rw [e.out], by rw [e.out]; exact ⟨_, _, F1, F2, rfl, rfl, ho1, ho2, h13⟩, hn, lo_append (lo_mono hb1 (by omega)) (lo_mono hb2 (by omega)) (Nat.le_refl _), f⟩
  · skip
    obtain ⟨ad, ea, hc⟩ := row_int_at h12 (fr.toNat - 1) (by omega)
    subst ea
    rw [at0_get (by omega)] at hc
    have bx := okL_get q2 (fr.toNat - 1) (by omega)
    rw [at0_get (by omega)] at bx
    obtain ⟨x, hx⟩ : ∃ x, at0 b.notes (fr.toNat - 1) = x := ⟨_, rfl⟩
    rw [hx] at hc bx
    by_cases hlt : x < s
    · skip
      have e := Lib.hid (show moveR b 2 fr ds s = (nilBk, false) from moveR_no d1 hk2 hfr hds hs0 (by show ¬ s ≤ at0 b.notes (fr.toNat - 1); rw [hx]; omega))
      have Dd1 := Lib.hid d1
      clear d1
      have Dd2 := Lib.hid d2
      clear d2
      have Dd3 := Lib.hid d3
      clear d3
      have Dd4 := Lib.hid d4
      clear d4
      clear ln1 ln2
      go_enter Try.func31, Try.ntmps31
      go_wp2_with (first
        | ((with_reducible refine gate_dst (N := 5) rfl ?_); refine wpList_box rfl _ _ rfl #[.slice A1 3 p1, .slice (some ad) 3 p2, .int .i64 b.locked] rfl ?_; intro g_k5 w9 hg_k5 k5 f9; have zf_k5 := f.size; have hl_k5 := k5.lt; have z9 := f9.size; replace f := f.trans f9; (try (replace k10 := k10.fr f9; (try clear r_k10); have r_k10 := k10.cells)); (try (replace k12 := k12.fr f9; (try clear r_k12); have r_k12 := k12.cells)); (try clear r_k5); have r_k5 := k5.cells)
        | ((with_reducible refine gate_dst (N := 10) rfl ?_); refine wpList_alloc rfl _ rfl _ (zero24 _) #[.slice none 0 0, .slice none 0 0, .int .i64 0] rfl ?_; intro g_k10 w9 hg_k10 k10 f9; have zf_k10 := f.size; have hl_k10 := k10.lt; have z9 := f9.size; replace f := f.trans f9; (try (replace k5 := k5.fr f9; (try clear r_k5); have r_k5 := k5.cells)); (try (replace k12 := k12.fr f9; (try clear r_k12); have r_k12 := k12.cells)); (try clear r_k10); have r_k10 := k10.cells)
        | (go_at_call 24; (with_reducible refine (sBankOk_c _ b [.slice A1 3 p1, .slice (some ad) 3 p2, .int .i64 b.locked] (tBk_mk (h11.fr f) (h12.fr f) h13)).mono ?_); rintro e w9 ⟨rfl, f9⟩; (try rw [Dd1.out]); (try rw [Dd2.out]); (try rw [Dd3.out]); (try rw [Dd4.out]); have z9 := f9.size; replace f := f.trans f9; (try (replace k5 := k5.fr f9; (try clear r_k5); have r_k5 := k5.cells)); (try (replace k10 := k10.fr f9; (try clear r_k10); have r_k10 := k10.cells)); (try (replace k12 := k12.fr f9; (try clear r_k12); have r_k12 := k12.cells)))
        | (go_at_call 54; (with_reducible refine (l6In_c _ _ _ _).mono ?_); rintro e w9 ⟨rfl, rfl⟩; (try rw [Dd1.out]); (try rw [Dd2.out]); (try rw [Dd3.out]); (try rw [Dd4.out]))
        | (go_at_call 55; (with_reducible refine (l1User_c _ _).mono ?_); rintro e w9 ⟨rfl, rfl⟩; (try rw [Dd1.out]); (try rw [Dd2.out]); (try rw [Dd3.out]); (try rw [Dd4.out]))
        | (go_at_call 56; (with_reducible refine (l1List2_c _ (.slice A1 3 p1) (.slice (some ad) 3 p2) (.int .i64 b.locked) 2 (by decide)).mono ?_); rintro e w9 ⟨rfl, f9⟩; have z9 := f9.size; replace f := f.trans f9; (try (replace k5 := k5.fr f9; (try clear r_k5); have r_k5 := k5.cells)); (try (replace k10 := k10.fr f9; (try clear r_k10); have r_k10 := k10.cells)); (try (replace k12 := k12.fr f9; (try clear r_k12); have r_k12 := k12.cells)); (try clear hcx); have hcx := f.cell hc)
        | ((with_reducible refine gate_store (p := 10) rfl ?_); refine wpList_bstore k10 rfl _ _ _ rfl 0 3 rfl (.agg #[.slice none 0 0, .slice none 0 0, .int .i64 0]) rfl #[.slice none 0 0, .slice none 0 0, .int .i64 0] rfl rfl size24 (by simp) (by intro u hu; simp at hu; rcases hu with rfl | rfl <;> rfl) #[.slice none 0 0, .slice none 0 0, .int .i64 0] rfl ?_; intro w9 k9 c9; have z9 := c9.size; replace f := f.own c9 (fun q hq => by have := List.mem_singleton.1 hq; have := f.size; omega); (try (replace k5 := k5.chg c9 (fun hm => by have := List.mem_singleton.1 hm; omega); (try clear r_k5); have r_k5 := k5.cells)); (try (replace k12 := k12.chg c9 (fun hm => by have := List.mem_singleton.1 hm; omega); (try clear r_k12); have r_k12 := k12.cells)); replace k10 := k9; clear k9; (try clear r_k10); have r_k10 := k10.cells))
      exact bodyPost_ret (v := .tuple #[.agg #[.slice none 0 0, .slice none 0 0, .int .i64 0], .bool false]) (results_cell_row2 rfl _ _ g_k10 _ _ _ _ rfl k10.blk Try.underlying24 rfl size24 _ rfl) rfl ⟨[.slice none 0 0, .slice none 0 0, .int .i64 0], [], by rw [e.out], by rw [e.out]; exact nilBk_own _, by simp, by simp, f⟩
    have LI := Lib.hid (show (fr.toNat - 1) < b.notes.length by omega)
    have hle : s ≤ x := by omega
    have ltf : decide (x < s) = false := decide_eq_false hlt
    obtain ⟨ys, hys⟩ : ∃ ys, addAt b.notes (fr.toNat - 1) (-s) = ys := ⟨_, rfl⟩
    have hyl : ys.length = 3 := by rw [← hys, addAt_len]; exact ln2
    have hy1 : b.notes.set (fr.toNat - 1) (x - s) = ys := by rw [← hys, addAt, hx, show x - s = x + -s from Int.sub_eq_add_neg]
    have by' : 0 ≤ at0 ys (ds.toNat - 1) ∧ at0 ys (ds.toNat - 1) ≤ 30 := by
      have bz := okL_get q2 (ds.toNat - 1) (by omega)
      rw [at0_get (by omega)] at bz
      rw [← hys, at0_addAt _ _ _ _ (by omega), hx]
      split <;> omega
    obtain ⟨y, hy⟩ : ∃ y, at0 ys (ds.toNat - 1) = y := ⟨_, rfl⟩
    rw [hy] at by'
    obtain ⟨zs, hzs⟩ : ∃ zs, addAt ys (ds.toNat - 1) s = zs := ⟨_, rfl⟩
    have hz1 : ys.set (ds.toNat - 1) (y + s) = zs := by rw [← hzs, addAt, hy]
    have e := Lib.hid (show moveR b 2 fr ds s = ((⟨b.own, zs, b.locked⟩ : Bk), true) by rw [moveR_yes d1 hk2 hfr hds hs0 (by show s ≤ at0 b.notes (fr.toNat - 1); rw [hx]; omega)]; show (setLst b 2 (addAt (addAt b.notes (fr.toNat - 1) (-s)) (ds.toNat - 1) s), true) = _; rw [hys, hzs]; rfl)
    have Q := Lib.hid (show tBk.rd w b [.slice A1 3 p1, .slice (some ad) 3 p2, .int .i64 b.locked] from tBk_mk h11 h12 h13)
    have HY := Lib.hid hy1
    have HZ := Lib.hid hz1
    have HX := Lib.hid hx
    have HYY := Lib.hid hy
    have LJ := Lib.hid (show (ds.toNat - 1) < ys.length by omega)
    clear ln1 ln2 hyl hys hzs hy1 hz1 hx hy
    have Dd1 := Lib.hid d1
    clear d1
    have Dd2 := Lib.hid d2
    clear d2
    have Dd3 := Lib.hid d3
    clear d3
    have Dd4 := Lib.hid d4
    clear d4
    go_enter Try.func31, Try.ntmps31
    go_wp2_with (first
      | ((with_reducible refine gate_dst (N := 5) rfl ?_); refine wpList_box rfl _ _ rfl #[.slice A1 3 p1, .slice (some ad) 3 p2, .int .i64 b.locked] rfl ?_; intro g_k5 w9 hg_k5 k5 f9; have zf_k5 := f.size; have hl_k5 := k5.lt; have z9 := f9.size; replace f := f.trans f9; (try replace ho1 := ho1.fr f9); (try replace ho2 := ho2.fr f9); (try (replace k10 := k10.fr f9; (try clear r_k10); have r_k10 := k10.cells)); (try (replace k12 := k12.fr f9; (try clear r_k12); have r_k12 := k12.cells)); (try clear r_k5); have r_k5 := k5.cells)
      | ((with_reducible refine gate_dst (N := 10) rfl ?_); refine wpList_alloc rfl _ rfl _ (zero24 _) #[.slice none 0 0, .slice none 0 0, .int .i64 0] rfl ?_; intro g_k10 w9 hg_k10 k10 f9; have zf_k10 := f.size; have hl_k10 := k10.lt; have z9 := f9.size; replace f := f.trans f9; (try replace ho1 := ho1.fr f9); (try replace ho2 := ho2.fr f9); (try (replace k5 := k5.fr f9; (try clear r_k5); have r_k5 := k5.cells)); (try (replace k12 := k12.fr f9; (try clear r_k12); have r_k12 := k12.cells)); (try clear r_k10); have r_k10 := k10.cells)
      | ((with_reducible refine gate_dst (N := 12) rfl ?_); refine wpList_alloc rfl _ rfl _ (zero24 _) #[.slice none 0 0, .slice none 0 0, .int .i64 0] rfl ?_; intro g_k12 w9 hg_k12 k12 f9; have zf_k12 := f.size; have hl_k12 := k12.lt; have z9 := f9.size; replace f := f.trans f9; (try replace ho1 := ho1.fr f9); (try replace ho2 := ho2.fr f9); (try (replace k5 := k5.fr f9; (try clear r_k5); have r_k5 := k5.cells)); (try (replace k10 := k10.fr f9; (try clear r_k10); have r_k10 := k10.cells)); (try clear r_k12); have r_k12 := k12.cells)
      | (go_at_call 24; (with_reducible refine (sBankOk_c _ b [.slice A1 3 p1, .slice (some ad) 3 p2, .int .i64 b.locked] (tBk_mk (h11.fr f) (h12.fr f) h13)).mono ?_); rintro e w9 ⟨rfl, f9⟩; (try rw [Dd1.out]); (try rw [Dd2.out]); (try rw [Dd3.out]); (try rw [Dd4.out]); have z9 := f9.size; replace f := f.trans f9; (try replace ho1 := ho1.fr f9); (try replace ho2 := ho2.fr f9); (try (replace k5 := k5.fr f9; (try clear r_k5); have r_k5 := k5.cells)); (try (replace k10 := k10.fr f9; (try clear r_k10); have r_k10 := k10.cells)); (try (replace k12 := k12.fr f9; (try clear r_k12); have r_k12 := k12.cells)))
      | (go_at_call 54; (with_reducible refine (l6In_c _ _ _ _).mono ?_); rintro e w9 ⟨rfl, rfl⟩; (try rw [Dd1.out]); (try rw [Dd2.out]); (try rw [Dd3.out]); (try rw [Dd4.out]))
      | (go_at_call 55; (with_reducible refine (l1User_c _ _).mono ?_); rintro e w9 ⟨rfl, rfl⟩; (try rw [Dd1.out]); (try rw [Dd2.out]); (try rw [Dd3.out]); (try rw [Dd4.out]))
      | (go_at_call 56; (with_reducible refine (l1List2_c _ (.slice A1 3 p1) (.slice (some ad) 3 p2) (.int .i64 b.locked) 2 (by decide)).mono ?_); rintro e w9 ⟨rfl, f9⟩; have z9 := f9.size; replace f := f.trans f9; (try replace ho1 := ho1.fr f9); (try replace ho2 := ho2.fr f9); (try (replace k5 := k5.fr f9; (try clear r_k5); have r_k5 := k5.cells)); (try (replace k10 := k10.fr f9; (try clear r_k10); have r_k10 := k10.cells)); (try (replace k12 := k12.fr f9; (try clear r_k12); have r_k12 := k12.cells)); (try clear hcx); have hcx := f.cell hc)
      | (go_at_call 57; (with_reducible refine (l1Copy_c _ b [.slice A1 3 p1, .slice (some ad) 3 p2, .int .i64 b.locked] (Q.out.fr f) HL.out.1 HL.out.2).mono ?_); rintro e w9 ⟨_, F, rfl, ⟨o1, o2, F1, F2, rfl, rfl, ho1, ho2, _⟩, hn, hb0, f9⟩; obtain ⟨g1, cp1, e1⟩ := ho1.shape HL.out.1.1; obtain ⟨g2, cp2, e2⟩ := ho2.shape HL.out.1.2; rw [LN1.out] at e1; rw [LN2.out] at e2; subst e1 e2; have hb1 := fun g hg => hb0 g (List.mem_append_left _ hg); have hb2 := fun g hg => hb0 g (List.mem_append_right _ hg); have hu1 := ho1.lt; have hu2 := ho2.lt; have DJ := (List.nodup_append.1 hn).2.2; have z9 := f9.size; replace f := f.trans f9; (try replace ho1 := ho1.fr f9); (try replace ho2 := ho2.fr f9); (try (replace k5 := k5.fr f9; (try clear r_k5); have r_k5 := k5.cells)); (try (replace k10 := k10.fr f9; (try clear r_k10); have r_k10 := k10.cells)); (try (replace k12 := k12.fr f9; (try clear r_k12); have r_k12 := k12.cells)))
      | (go_at_call 56; (with_reducible refine (l1List2_c _ (.slice (some ⟨g1, 0, none⟩) 3 cp1) (.slice (some ⟨g2, 0, none⟩) 3 cp2) (.int .i64 b.locked) 2 (by decide)).mono ?_); rintro e w9 ⟨rfl, f9⟩; have z9 := f9.size; replace f := f.trans f9; (try replace ho1 := ho1.fr f9); (try replace ho2 := ho2.fr f9); (try (replace k5 := k5.fr f9; (try clear r_k5); have r_k5 := k5.cells)); (try (replace k10 := k10.fr f9; (try clear r_k10); have r_k10 := k10.cells)); (try (replace k12 := k12.fr f9; (try clear r_k12); have r_k12 := k12.cells)); have hcy := orow_cell ho2 (i := (fr.toNat - 1)) LI.out; rw [at0_get LI.out, HX.out] at hcy)
      | ((with_reducible refine gate_store (p := 12) rfl ?_); refine wpList_bstore k12 rfl _ _ _ rfl 0 3 rfl (.agg #[.slice (some ⟨g1, 0, none⟩) 3 cp1, .slice (some ⟨g2, 0, none⟩) 3 cp2, .int .i64 b.locked]) rfl #[.slice (some ⟨g1, 0, none⟩) 3 cp1, .slice (some ⟨g2, 0, none⟩) 3 cp2, .int .i64 b.locked] rfl rfl size24 (by simp) (by intro u hu; simp at hu; rcases hu with rfl | rfl | rfl; exact ho1.one; exact ho2.one; rfl) #[.slice (some ⟨g1, 0, none⟩) 3 cp1, .slice (some ⟨g2, 0, none⟩) 3 cp2, .int .i64 b.locked] rfl ?_; intro w9 k9 c9; have z9 := c9.size; replace f := f.own c9 (fun q hq => by have := List.mem_singleton.1 hq; have := f.size; omega); (try replace ho1 := ho1.chg c9 (fun q hq hm => by have := hb1 q hq; have := hu1 q hq; have := List.mem_singleton.1 hm; omega)); (try replace ho2 := ho2.chg c9 (fun q hq hm => by have := hb2 q hq; have := hu2 q hq; have := List.mem_singleton.1 hm; omega)); (try (replace k5 := k5.chg c9 (fun hm => by have := List.mem_singleton.1 hm; omega); (try clear r_k5); have r_k5 := k5.cells)); (try (replace k10 := k10.chg c9 (fun hm => by have := List.mem_singleton.1 hm; omega); (try clear r_k10); have r_k10 := k10.cells)); replace k12 := k9; clear k9; (try clear r_k12); have r_k12 := k12.cells)
      | ((with_reducible refine gate_dst (N := 50) rfl ?_); refine wpList_bload k12 rfl _ _ rfl 0 3 rfl _ Try.underlying24 rfl size24 (by simp) #[.slice (some ⟨g1, 0, none⟩) 3 cp1, .slice (some ⟨g2, 0, none⟩) 3 cp2, .int .i64 b.locked] rfl ?_)
      | ((with_reducible refine gate_store (p := 63) rfl ?_); refine wpList_ostore ho2 (i := (fr.toNat - 1)) LI.out rfl _ _ _ rfl rfl (x - s) rfl size3 ?_; intro w9 h9 c9; rw [HY.out] at h9; have z9 := c9.size; replace f := f.own c9 (fun q hq => by have := hb2 q hq; omega); replace ho2 := h9; replace ho1 := ho1.chg c9 (fun q hq hm => DJ q hq q hm rfl); (replace k5 := k5.chg c9 (fun hm => by have := hb2 _ hm; have := hu2 _ hm; omega)); (replace k10 := k10.chg c9 (fun hm => by have := hb2 _ hm; have := hu2 _ hm; omega)); (replace k12 := k12.chg c9 (fun hm => by have := hb2 _ hm; have := hu2 _ hm; omega)); (try clear r_k5); (try clear r_k10); (try clear r_k12); have r_k12 := k12.cells; (try clear hcy); have hcy := orow_cell ho2 (i := (ds.toNat - 1)) LJ.out; rw [at0_get LJ.out, HYY.out] at hcy)
      | ((with_reducible refine gate_store (p := 74) rfl ?_); refine wpList_ostore ho2 (i := (ds.toNat - 1)) LJ.out rfl _ _ _ rfl rfl (y + s) rfl size3 ?_; intro w9 h9 c9; rw [HZ.out] at h9; have z9 := c9.size; replace f := f.own c9 (fun q hq => by have := hb2 q hq; omega); replace ho2 := h9; replace ho1 := ho1.chg c9 (fun q hq hm => DJ q hq q hm rfl); (replace k5 := k5.chg c9 (fun hm => by have := hb2 _ hm; have := hu2 _ hm; omega)); (replace k10 := k10.chg c9 (fun hm => by have := hb2 _ hm; have := hu2 _ hm; omega)); (replace k12 := k12.chg c9 (fun hm => by have := hb2 _ hm; have := hu2 _ hm; omega)); (try clear r_k5); (try clear r_k10); (try clear r_k12); have r_k12 := k12.cells; (try clear hcy); skip)
      | ((with_reducible refine gate_dst (N := 75) rfl ?_); refine wpList_bload k12 rfl _ _ rfl 0 3 rfl _ Try.underlying24 rfl size24 (by simp) #[.slice (some ⟨g1, 0, none⟩) 3 cp1, .slice (some ⟨g2, 0, none⟩) 3 cp2, .int .i64 b.locked] rfl ?_)
      | ((with_reducible refine gate_store (p := 10) rfl ?_); refine wpList_bstore k10 rfl _ _ _ rfl 0 3 rfl (.agg #[.slice (some ⟨g1, 0, none⟩) 3 cp1, .slice (some ⟨g2, 0, none⟩) 3 cp2, .int .i64 b.locked]) rfl #[.slice (some ⟨g1, 0, none⟩) 3 cp1, .slice (some ⟨g2, 0, none⟩) 3 cp2, .int .i64 b.locked] rfl rfl size24 (by simp) (by intro u hu; simp at hu; rcases hu with rfl | rfl | rfl; exact ho1.one; exact ho2.one; rfl) #[.slice (some ⟨g1, 0, none⟩) 3 cp1, .slice (some ⟨g2, 0, none⟩) 3 cp2, .int .i64 b.locked] rfl ?_; intro w9 k9 c9; have z9 := c9.size; replace f := f.own c9 (fun q hq => by have := List.mem_singleton.1 hq; have := f.size; omega); (try replace ho1 := ho1.chg c9 (fun q hq hm => by have := hb1 q hq; have := hu1 q hq; have := List.mem_singleton.1 hm; omega)); (try replace ho2 := ho2.chg c9 (fun q hq hm => by have := hb2 q hq; have := hu2 q hq; have := List.mem_singleton.1 hm; omega)); (try (replace k5 := k5.chg c9 (fun hm => by have := List.mem_singleton.1 hm; omega); (try clear r_k5); have r_k5 := k5.cells)); (try (replace k12 := k12.chg c9 (fun hm => by have := List.mem_singleton.1 hm; omega); (try clear r_k12); have r_k12 := k12.cells)); replace k10 := k9; clear k9; (try clear r_k10); have r_k10 := k10.cells))
    exact bodyPost_ret (v := .tuple #[.agg #[.slice (some ⟨g1, 0, none⟩) 3 cp1, .slice (some ⟨g2, 0, none⟩) 3 cp2, .int .i64 b.locked], .bool true]) (results_cell_row2 rfl _ _ g_k10 _ _ _ _ rfl k10.blk Try.underlying24 rfl size24 _ rfl) rfl ⟨[.slice (some ⟨g1, 0, none⟩) 3 cp1, .slice (some ⟨g2, 0, none⟩) 3 cp2, .int .i64 b.locked], F1 ++ F2, by rw [e.out], by rw [e.out]; exact ⟨_, _, F1, F2, rfl, rfl, ho1, ho2, h13⟩, hn, lo_append (lo_mono hb1 (by omega)) (lo_mono hb2 (by omega)) (Nat.le_refl _), f⟩
end Go.Proofs.Ytnpggjlhdnbgoaa
