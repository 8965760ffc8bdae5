/- The program's BankMove. -/
import Derived.Test.YtnpggjlhdnbgoaaSpecMove
import Derived.Test.YtnpggjlhdnbgoaaLedgerOf
namespace Go.Proofs.Ytnpggjlhdnbgoaa
set_option linter.unusedVariables false
set_option linter.unusedSimpArgs false
open Go.RowKit
theorem size70 : (Try.prog.info? 70).map (·.size) = some 3 := by kernel_rfl
theorem coinsV_ok {k : Int} (h : 1 ≤ k ∧ k ≤ 2) : ∃ fn, coinsV k = .tuple #[fn, .bool true] := by
  rcases (by omega : k = 1 ∨ k = 2) with rfl | rfl
  · exact ⟨_, rfl⟩
  · exact ⟨_, rfl⟩
theorem coinsV_no {k : Int} (h : ¬ (1 ≤ k ∧ k ≤ 2)) : coinsV k = .tuple #[.nilFunc, .bool false] := by
  unfold coinsV
  rw [if_neg (by omega), if_neg (by omega)]
set_option maxHeartbeats 6400000 in
theorem BankMove_c (w : World) (b : Bk) (c1 : List Value) (h1 : tBk.rd w b c1) (k fr ds s : Int) (bk : I64 k) (bf : I64 fr) (bd : I64 ds) (bs : I64 s) : Calls Try.prog 32 #[.agg c1.toArray, .int .i64 k, .int .i64 fr, .int .i64 ds, .int .i64 s] w (RetOwn2 tBk (moveR b k fr ds s) w) := by
  obtain ⟨v1, v2, rfl, h11, h12, h13⟩ := h1
  have f := Fr.refl w
  unfold I64 at bk bf bd bs
  cases d2 : decide (1 ≤ k ∧ k ≤ 2) with
  | false =>
    have e := Lib.hid (show moveR b k fr ds s = (nilBk, false) by unfold moveR; rw [if_neg (by simp only [mvOk, d2]; simp)])
    have HC := Lib.hid (coinsV_no (of_decide_eq_false d2))
    have Dd2 := Lib.hid d2
    clear d2
    go_enter Try.func32, Try.ntmps32
    go_wp2_with (first
      | ((with_reducible refine gate_dst (N := 5) rfl ?_); refine wpList_box rfl _ _ rfl #[v1, v2, .int .i64 b.locked] rfl ?_; intro g_k5 w9 hg_k5 k5 f9; have zf_k5 := f.size; have hl_k5 := k5.lt; have z9 := f9.size; replace f := f.trans f9; (try (replace k10 := k10.fr f9; (try clear r_k10); have r_k10 := k10.cells)); (try (replace k14 := k14.fr f9; (try clear r_k14); have r_k14 := k14.cells)); (try clear r_k5); have r_k5 := k5.cells)
      | ((with_reducible refine gate_dst (N := 10) rfl ?_); refine wpList_alloc rfl _ rfl _ (zero24 _) #[.slice none 0 0, .slice none 0 0, .int .i64 0] rfl ?_; intro g_k10 w9 hg_k10 k10 f9; have zf_k10 := f.size; have hl_k10 := k10.lt; have z9 := f9.size; replace f := f.trans f9; (try (replace k5 := k5.fr f9; (try clear r_k5); have r_k5 := k5.cells)); (try (replace k14 := k14.fr f9; (try clear r_k14); have r_k14 := k14.cells)); (try clear r_k10); have r_k10 := k10.cells)
      | (go_at_call 58; (with_reducible refine (coinsOf_c _ _).mono ?_); rintro e w9 ⟨rfl, rfl⟩; rw [HC.out])
      | (go_at_call 26; (with_reducible refine (BankOk_c _ b [v1, v2, .int .i64 b.locked] (tBk_mk (h11.fr f) (h12.fr f) h13)).mono ?_); rintro e w9 ⟨rfl, f9⟩; (try rw [Dd2.out]); have z9 := f9.size; replace f := f.trans f9; (try (replace k5 := k5.fr f9; (try clear r_k5); have r_k5 := k5.cells)); (try (replace k10 := k10.fr f9; (try clear r_k10); have r_k10 := k10.cells)); (try (replace k14 := k14.fr f9; (try clear r_k14); have r_k14 := k14.cells)))
      | (go_at_call 59; (with_reducible refine (userOk_c _ _).mono ?_); rintro e w9 ⟨rfl, rfl⟩; (try rw [Dd2.out]))
      | ((with_reducible refine gate_store (p := 10) rfl ?_); refine wpList_bstore k10 rfl _ _ _ rfl 0 3 rfl (.agg #[.slice none 0 0, .slice none 0 0, .int .i64 0]) rfl #[.slice none 0 0, .slice none 0 0, .int .i64 0] rfl rfl size24 (by simp) (by intro u hu; simp at hu; rcases hu with rfl | rfl <;> rfl) #[.slice none 0 0, .slice none 0 0, .int .i64 0] rfl ?_; intro w9 k9 c9; have z9 := c9.size; replace f := f.own c9 (fun q hq => by have := List.mem_singleton.1 hq; have := f.size; omega); (try (replace k5 := k5.chg c9 (fun hm => by have := List.mem_singleton.1 hm; omega); (try clear r_k5); have r_k5 := k5.cells)); (try (replace k14 := k14.chg c9 (fun hm => by have := List.mem_singleton.1 hm; omega); (try clear r_k14); have r_k14 := k14.cells)); replace k10 := k9; clear k9; (try clear r_k10); have r_k10 := k10.cells))
    exact bodyPost_ret (v := .tuple #[.agg #[.slice none 0 0, .slice none 0 0, .int .i64 0], .bool false]) (results_cell_row2 rfl _ _ g_k10 _ _ _ _ rfl k10.blk Try.underlying24 rfl size24 _ rfl) rfl ⟨[.slice none 0 0, .slice none 0 0, .int .i64 0], [], by rw [e.out], by rw [e.out]; exact nilBk_own _, by simp, by simp, f⟩
  | true =>
  have hk2 := of_decide_eq_true d2
  obtain ⟨fn, hfn⟩ := coinsV_ok hk2
  cases d3 : decide (1 ≤ fr ∧ fr ≤ 3) with
  | false =>
    have e := Lib.hid (show moveR b k fr ds s = (nilBk, false) by unfold moveR; rw [if_neg (by simp only [mvOk, d2, d3]; simp)])
    have HC := Lib.hid hfn
    clear hfn
    have Dd2 := Lib.hid d2
    clear d2
    have Dd3 := Lib.hid d3
    clear d3
    go_enter Try.func32, Try.ntmps32
    go_wp2_with (first
      | ((with_reducible refine gate_dst (N := 5) rfl ?_); refine wpList_box rfl _ _ rfl #[v1, v2, .int .i64 b.locked] rfl ?_; intro g_k5 w9 hg_k5 k5 f9; have zf_k5 := f.size; have hl_k5 := k5.lt; have z9 := f9.size; replace f := f.trans f9; (try (replace k10 := k10.fr f9; (try clear r_k10); have r_k10 := k10.cells)); (try (replace k14 := k14.fr f9; (try clear r_k14); have r_k14 := k14.cells)); (try clear r_k5); have r_k5 := k5.cells)
      | ((with_reducible refine gate_dst (N := 10) rfl ?_); refine wpList_alloc rfl _ rfl _ (zero24 _) #[.slice none 0 0, .slice none 0 0, .int .i64 0] rfl ?_; intro g_k10 w9 hg_k10 k10 f9; have zf_k10 := f.size; have hl_k10 := k10.lt; have z9 := f9.size; replace f := f.trans f9; (try (replace k5 := k5.fr f9; (try clear r_k5); have r_k5 := k5.cells)); (try (replace k14 := k14.fr f9; (try clear r_k14); have r_k14 := k14.cells)); (try clear r_k10); have r_k10 := k10.cells)
      | (go_at_call 58; (with_reducible refine (coinsOf_c _ _).mono ?_); rintro e w9 ⟨rfl, rfl⟩; rw [HC.out])
      | (go_at_call 26; (with_reducible refine (BankOk_c _ b [v1, v2, .int .i64 b.locked] (tBk_mk (h11.fr f) (h12.fr f) h13)).mono ?_); rintro e w9 ⟨rfl, f9⟩; (try rw [Dd2.out]); (try rw [Dd3.out]); have z9 := f9.size; replace f := f.trans f9; (try (replace k5 := k5.fr f9; (try clear r_k5); have r_k5 := k5.cells)); (try (replace k10 := k10.fr f9; (try clear r_k10); have r_k10 := k10.cells)); (try (replace k14 := k14.fr f9; (try clear r_k14); have r_k14 := k14.cells)))
      | (go_at_call 59; (with_reducible refine (userOk_c _ _).mono ?_); rintro e w9 ⟨rfl, rfl⟩; (try rw [Dd2.out]); (try rw [Dd3.out]))
      | ((with_reducible refine gate_store (p := 10) rfl ?_); refine wpList_bstore k10 rfl _ _ _ rfl 0 3 rfl (.agg #[.slice none 0 0, .slice none 0 0, .int .i64 0]) rfl #[.slice none 0 0, .slice none 0 0, .int .i64 0] rfl rfl size24 (by simp) (by intro u hu; simp at hu; rcases hu with rfl | rfl <;> rfl) #[.slice none 0 0, .slice none 0 0, .int .i64 0] rfl ?_; intro w9 k9 c9; have z9 := c9.size; replace f := f.own c9 (fun q hq => by have := List.mem_singleton.1 hq; have := f.size; omega); (try (replace k5 := k5.chg c9 (fun hm => by have := List.mem_singleton.1 hm; omega); (try clear r_k5); have r_k5 := k5.cells)); (try (replace k14 := k14.chg c9 (fun hm => by have := List.mem_singleton.1 hm; omega); (try clear r_k14); have r_k14 := k14.cells)); replace k10 := k9; clear k9; (try clear r_k10); have r_k10 := k10.cells))
    exact bodyPost_ret (v := .tuple #[.agg #[.slice none 0 0, .slice none 0 0, .int .i64 0], .bool false]) (results_cell_row2 rfl _ _ g_k10 _ _ _ _ rfl k10.blk Try.underlying24 rfl size24 _ rfl) rfl ⟨[.slice none 0 0, .slice none 0 0, .int .i64 0], [], by rw [e.out], by rw [e.out]; exact nilBk_own _, by simp, by simp, f⟩
  | true =>
  cases d4 : decide (1 ≤ ds ∧ ds ≤ 3) with
  | false =>
    have e := Lib.hid (show moveR b k fr ds s = (nilBk, false) by unfold moveR; rw [if_neg (by simp only [mvOk, d2, d3, d4]; simp)])
    have HC := Lib.hid hfn
    clear hfn
    have Dd2 := Lib.hid d2
    clear d2
    have Dd3 := Lib.hid d3
    clear d3
    have Dd4 := Lib.hid d4
    clear d4
    go_enter Try.func32, Try.ntmps32
    go_wp2_with (first
      | ((with_reducible refine gate_dst (N := 5) rfl ?_); refine wpList_box rfl _ _ rfl #[v1, v2, .int .i64 b.locked] rfl ?_; intro g_k5 w9 hg_k5 k5 f9; have zf_k5 := f.size; have hl_k5 := k5.lt; have z9 := f9.size; replace f := f.trans f9; (try (replace k10 := k10.fr f9; (try clear r_k10); have r_k10 := k10.cells)); (try (replace k14 := k14.fr f9; (try clear r_k14); have r_k14 := k14.cells)); (try clear r_k5); have r_k5 := k5.cells)
      | ((with_reducible refine gate_dst (N := 10) rfl ?_); refine wpList_alloc rfl _ rfl _ (zero24 _) #[.slice none 0 0, .slice none 0 0, .int .i64 0] rfl ?_; intro g_k10 w9 hg_k10 k10 f9; have zf_k10 := f.size; have hl_k10 := k10.lt; have z9 := f9.size; replace f := f.trans f9; (try (replace k5 := k5.fr f9; (try clear r_k5); have r_k5 := k5.cells)); (try (replace k14 := k14.fr f9; (try clear r_k14); have r_k14 := k14.cells)); (try clear r_k10); have r_k10 := k10.cells)
      | (go_at_call 58; (with_reducible refine (coinsOf_c _ _).mono ?_); rintro e w9 ⟨rfl, rfl⟩; rw [HC.out])
      | (go_at_call 26; (with_reducible refine (BankOk_c _ b [v1, v2, .int .i64 b.locked] (tBk_mk (h11.fr f) (h12.fr f) h13)).mono ?_); rintro e w9 ⟨rfl, f9⟩; (try rw [Dd2.out]); (try rw [Dd3.out]); (try rw [Dd4.out]); have z9 := f9.size; replace f := f.trans f9; (try (replace k5 := k5.fr f9; (try clear r_k5); have r_k5 := k5.cells)); (try (replace k10 := k10.fr f9; (try clear r_k10); have r_k10 := k10.cells)); (try (replace k14 := k14.fr f9; (try clear r_k14); have r_k14 := k14.cells)))
      | (go_at_call 59; (with_reducible refine (userOk_c _ _).mono ?_); rintro e w9 ⟨rfl, rfl⟩; (try rw [Dd2.out]); (try rw [Dd3.out]); (try rw [Dd4.out]))
      | ((with_reducible refine gate_store (p := 10) rfl ?_); refine wpList_bstore k10 rfl _ _ _ rfl 0 3 rfl (.agg #[.slice none 0 0, .slice none 0 0, .int .i64 0]) rfl #[.slice none 0 0, .slice none 0 0, .int .i64 0] rfl rfl size24 (by simp) (by intro u hu; simp at hu; rcases hu with rfl | rfl <;> rfl) #[.slice none 0 0, .slice none 0 0, .int .i64 0] rfl ?_; intro w9 k9 c9; have z9 := c9.size; replace f := f.own c9 (fun q hq => by have := List.mem_singleton.1 hq; have := f.size; omega); (try (replace k5 := k5.chg c9 (fun hm => by have := List.mem_singleton.1 hm; omega); (try clear r_k5); have r_k5 := k5.cells)); (try (replace k14 := k14.chg c9 (fun hm => by have := List.mem_singleton.1 hm; omega); (try clear r_k14); have r_k14 := k14.cells)); replace k10 := k9; clear k9; (try clear r_k10); have r_k10 := k10.cells))
    exact bodyPost_ret (v := .tuple #[.agg #[.slice none 0 0, .slice none 0 0, .int .i64 0], .bool false]) (results_cell_row2 rfl _ _ g_k10 _ _ _ _ rfl k10.blk Try.underlying24 rfl size24 _ rfl) rfl ⟨[.slice none 0 0, .slice none 0 0, .int .i64 0], [], by rw [e.out], by rw [e.out]; exact nilBk_own _, by simp, by simp, f⟩
  | true =>
  have hfr := of_decide_eq_true d3
  have hds := of_decide_eq_true d4
  by_cases hs : s < 0
  · have e := Lib.hid (show moveR b k fr ds s = (nilBk, false) by unfold moveR; rw [if_neg (by simp only [mvOk, decide_eq_false (show ¬ 0 ≤ s by omega)]; simp)])
    have HC := Lib.hid hfn
    clear hfn
    have Dd2 := Lib.hid d2
    clear d2
    have Dd3 := Lib.hid d3
    clear d3
    have Dd4 := Lib.hid d4
    clear d4
    go_enter Try.func32, Try.ntmps32
    go_wp2_with (first
      | ((with_reducible refine gate_dst (N := 5) rfl ?_); refine wpList_box rfl _ _ rfl #[v1, v2, .int .i64 b.locked] rfl ?_; intro g_k5 w9 hg_k5 k5 f9; have zf_k5 := f.size; have hl_k5 := k5.lt; have z9 := f9.size; replace f := f.trans f9; (try (replace k10 := k10.fr f9; (try clear r_k10); have r_k10 := k10.cells)); (try (replace k14 := k14.fr f9; (try clear r_k14); have r_k14 := k14.cells)); (try clear r_k5); have r_k5 := k5.cells)
      | ((with_reducible refine gate_dst (N := 10) rfl ?_); refine wpList_alloc rfl _ rfl _ (zero24 _) #[.slice none 0 0, .slice none 0 0, .int .i64 0] rfl ?_; intro g_k10 w9 hg_k10 k10 f9; have zf_k10 := f.size; have hl_k10 := k10.lt; have z9 := f9.size; replace f := f.trans f9; (try (replace k5 := k5.fr f9; (try clear r_k5); have r_k5 := k5.cells)); (try (replace k14 := k14.fr f9; (try clear r_k14); have r_k14 := k14.cells)); (try clear r_k10); have r_k10 := k10.cells)
      | (go_at_call 58; (with_reducible refine (coinsOf_c _ _).mono ?_); rintro e w9 ⟨rfl, rfl⟩; rw [HC.out])
      | (go_at_call 26; (with_reducible refine (BankOk_c _ b [v1, v2, .int .i64 b.locked] (tBk_mk (h11.fr f) (h12.fr f) h13)).mono ?_); rintro e w9 ⟨rfl, f9⟩; (try rw [Dd2.out]); (try rw [Dd3.out]); (try rw [Dd4.out]); have z9 := f9.size; replace f := f.trans f9; (try (replace k5 := k5.fr f9; (try clear r_k5); have r_k5 := k5.cells)); (try (replace k10 := k10.fr f9; (try clear r_k10); have r_k10 := k10.cells)); (try (replace k14 := k14.fr f9; (try clear r_k14); have r_k14 := k14.cells)))
      | (go_at_call 59; (with_reducible refine (userOk_c _ _).mono ?_); rintro e w9 ⟨rfl, rfl⟩; (try rw [Dd2.out]); (try rw [Dd3.out]); (try rw [Dd4.out]))
      | ((with_reducible refine gate_store (p := 10) rfl ?_); refine wpList_bstore k10 rfl _ _ _ rfl 0 3 rfl (.agg #[.slice none 0 0, .slice none 0 0, .int .i64 0]) rfl #[.slice none 0 0, .slice none 0 0, .int .i64 0] rfl rfl size24 (by simp) (by intro u hu; simp at hu; rcases hu with rfl | rfl <;> rfl) #[.slice none 0 0, .slice none 0 0, .int .i64 0] rfl ?_; intro w9 k9 c9; have z9 := c9.size; replace f := f.own c9 (fun q hq => by have := List.mem_singleton.1 hq; have := f.size; omega); (try (replace k5 := k5.chg c9 (fun hm => by have := List.mem_singleton.1 hm; omega); (try clear r_k5); have r_k5 := k5.cells)); (try (replace k14 := k14.chg c9 (fun hm => by have := List.mem_singleton.1 hm; omega); (try clear r_k14); have r_k14 := k14.cells)); replace k10 := k9; clear k9; (try clear r_k10); have r_k10 := k10.cells))
    exact bodyPost_ret (v := .tuple #[.agg #[.slice none 0 0, .slice none 0 0, .int .i64 0], .bool false]) (results_cell_row2 rfl _ _ g_k10 _ _ _ _ rfl k10.blk Try.underlying24 rfl size24 _ rfl) rfl ⟨[.slice none 0 0, .slice none 0 0, .int .i64 0], [], by rw [e.out], by rw [e.out]; exact nilBk_own _, by simp, by simp, f⟩
  have hs0 : 0 ≤ s := by omega
  have hsf : decide (s < 0) = false := decide_eq_false hs
  cases d1 : okBk b with
  | false =>
    have e := Lib.hid (show moveR b k fr ds s = (nilBk, false) by unfold moveR; rw [if_neg (by simp only [mvOk, d1]; simp)])
    have HC := Lib.hid hfn
    clear hfn
    have Dd2 := Lib.hid d2
    clear d2
    have Dd3 := Lib.hid d3
    clear d3
    have Dd4 := Lib.hid d4
    clear d4
    have Dd1 := Lib.hid d1
    clear d1
    go_enter Try.func32, Try.ntmps32
    go_wp2_with (first
      | ((with_reducible refine gate_dst (N := 5) rfl ?_); refine wpList_box rfl _ _ rfl #[v1, v2, .int .i64 b.locked] rfl ?_; intro g_k5 w9 hg_k5 k5 f9; have zf_k5 := f.size; have hl_k5 := k5.lt; have z9 := f9.size; replace f := f.trans f9; (try (replace k10 := k10.fr f9; (try clear r_k10); have r_k10 := k10.cells)); (try (replace k14 := k14.fr f9; (try clear r_k14); have r_k14 := k14.cells)); (try clear r_k5); have r_k5 := k5.cells)
      | ((with_reducible refine gate_dst (N := 10) rfl ?_); refine wpList_alloc rfl _ rfl _ (zero24 _) #[.slice none 0 0, .slice none 0 0, .int .i64 0] rfl ?_; intro g_k10 w9 hg_k10 k10 f9; have zf_k10 := f.size; have hl_k10 := k10.lt; have z9 := f9.size; replace f := f.trans f9; (try (replace k5 := k5.fr f9; (try clear r_k5); have r_k5 := k5.cells)); (try (replace k14 := k14.fr f9; (try clear r_k14); have r_k14 := k14.cells)); (try clear r_k10); have r_k10 := k10.cells)
      | (go_at_call 58; (with_reducible refine (coinsOf_c _ _).mono ?_); rintro e w9 ⟨rfl, rfl⟩; rw [HC.out])
      | (go_at_call 26; (with_reducible refine (BankOk_c _ b [v1, v2, .int .i64 b.locked] (tBk_mk (h11.fr f) (h12.fr f) h13)).mono ?_); rintro e w9 ⟨rfl, f9⟩; (try rw [Dd2.out]); (try rw [Dd3.out]); (try rw [Dd4.out]); (try rw [Dd1.out]); have z9 := f9.size; replace f := f.trans f9; (try (replace k5 := k5.fr f9; (try clear r_k5); have r_k5 := k5.cells)); (try (replace k10 := k10.fr f9; (try clear r_k10); have r_k10 := k10.cells)); (try (replace k14 := k14.fr f9; (try clear r_k14); have r_k14 := k14.cells)))
      | (go_at_call 59; (with_reducible refine (userOk_c _ _).mono ?_); rintro e w9 ⟨rfl, rfl⟩; (try rw [Dd2.out]); (try rw [Dd3.out]); (try rw [Dd4.out]); (try rw [Dd1.out]))
      | ((with_reducible refine gate_store (p := 10) rfl ?_); refine wpList_bstore k10 rfl _ _ _ rfl 0 3 rfl (.agg #[.slice none 0 0, .slice none 0 0, .int .i64 0]) rfl #[.slice none 0 0, .slice none 0 0, .int .i64 0] rfl rfl size24 (by simp) (by intro u hu; simp at hu; rcases hu with rfl | rfl <;> rfl) #[.slice none 0 0, .slice none 0 0, .int .i64 0] rfl ?_; intro w9 k9 c9; have z9 := c9.size; replace f := f.own c9 (fun q hq => by have := List.mem_singleton.1 hq; have := f.size; omega); (try (replace k5 := k5.chg c9 (fun hm => by have := List.mem_singleton.1 hm; omega); (try clear r_k5); have r_k5 := k5.cells)); (try (replace k14 := k14.chg c9 (fun hm => by have := List.mem_singleton.1 hm; omega); (try clear r_k14); have r_k14 := k14.cells)); replace k10 := k9; clear k9; (try clear r_k10); have r_k10 := k10.cells))
    exact bodyPost_ret (v := .tuple #[.agg #[.slice none 0 0, .slice none 0 0, .int .i64 0], .bool false]) (results_cell_row2 rfl _ _ g_k10 _ _ _ _ rfl k10.blk Try.underlying24 rfl size24 _ rfl) rfl ⟨[.slice none 0 0, .slice none 0 0, .int .i64 0], [], by rw [e.out], by rw [e.out]; exact nilBk_own _, by simp, by simp, f⟩
  | true =>
  obtain ⟨q1, q2, q3, q4, q5⟩ := okBk_split d1
  have ln1 := okL_len q1
  have ln2 := okL_len q2
  have LN := Lib.hid (And.intro ln1 ln2)
  clear hfn
  rcases (by omega : k = 1 ∨ k = 2) with rfl | rfl
  · skip
    have HC := Lib.hid (show coinsV 1 = .tuple #[.func (.func 64) #[] #[], .bool true] from rfl)
    have bx := okL_get q1 (fr.toNat - 1) (by omega)
    rw [at0_get (by omega)] at bx
    obtain ⟨x, hx⟩ : ∃ x, at0 b.own (fr.toNat - 1) = x := ⟨_, rfl⟩
    rw [hx] at bx
    have LI := Lib.hid (show fr.toNat - 1 < b.own.length by omega)
    by_cases hlt : x < s
    · have e := Lib.hid (show moveR b 1 fr ds s = (nilBk, false) from moveR_no d1 hk2 hfr hds hs0 (by show ¬ s ≤ at0 b.own (fr.toNat - 1); rw [hx]; omega))
      have HX := Lib.hid hx
      clear hx ln1 ln2
      have Dd2 := Lib.hid d2
      clear d2
      have Dd3 := Lib.hid d3
      clear d3
      have Dd4 := Lib.hid d4
      clear d4
      have Dd1 := Lib.hid d1
      clear d1
      go_enter Try.func32, Try.ntmps32
      go_wp2_with (first
        | ((with_reducible refine gate_dst (N := 5) rfl ?_); refine wpList_box rfl _ _ rfl #[v1, v2, .int .i64 b.locked] rfl ?_; intro g_k5 w9 hg_k5 k5 f9; have zf_k5 := f.size; have hl_k5 := k5.lt; have z9 := f9.size; replace f := f.trans f9; (try replace m1 := m1.fr f9); (try replace m2 := m2.fr f9); (try (replace k10 := k10.fr f9; (try clear r_k10); have r_k10 := k10.cells)); (try (replace k14 := k14.fr f9; (try clear r_k14); have r_k14 := k14.cells)); (try clear r_k5); have r_k5 := k5.cells)
        | ((with_reducible refine gate_dst (N := 10) rfl ?_); refine wpList_alloc rfl _ rfl _ (zero24 _) #[.slice none 0 0, .slice none 0 0, .int .i64 0] rfl ?_; intro g_k10 w9 hg_k10 k10 f9; have zf_k10 := f.size; have hl_k10 := k10.lt; have z9 := f9.size; replace f := f.trans f9; (try replace m1 := m1.fr f9); (try replace m2 := m2.fr f9); (try (replace k5 := k5.fr f9; (try clear r_k5); have r_k5 := k5.cells)); (try (replace k14 := k14.fr f9; (try clear r_k14); have r_k14 := k14.cells)); (try clear r_k10); have r_k10 := k10.cells)
        | (go_at_call 58; (with_reducible refine (coinsOf_c _ _).mono ?_); rintro e w9 ⟨rfl, rfl⟩; rw [HC.out])
        | (go_at_call 26; (with_reducible refine (BankOk_c _ b [v1, v2, .int .i64 b.locked] (tBk_mk (h11.fr f) (h12.fr f) h13)).mono ?_); rintro e w9 ⟨rfl, f9⟩; (try rw [Dd2.out]); (try rw [Dd3.out]); (try rw [Dd4.out]); (try rw [Dd1.out]); have z9 := f9.size; replace f := f.trans f9; (try replace m1 := m1.fr f9); (try replace m2 := m2.fr f9); (try (replace k5 := k5.fr f9; (try clear r_k5); have r_k5 := k5.cells)); (try (replace k10 := k10.fr f9; (try clear r_k10); have r_k10 := k10.cells)); (try (replace k14 := k14.fr f9; (try clear r_k14); have r_k14 := k14.cells)))
        | (go_at_call 59; (with_reducible refine (userOk_c _ _).mono ?_); rintro e w9 ⟨rfl, rfl⟩; (try rw [Dd2.out]); (try rw [Dd3.out]); (try rw [Dd4.out]); (try rw [Dd1.out]))
        | (go_at_call 60; (with_reducible refine (ledgerOf_c _ b [v1, v2, .int .i64 b.locked] (tBk_mk (h11.fr f) (h12.fr f) h13) LN.out).mono ?_); rintro e w9 ⟨g1, g2, rfl, m1, m2, gne, lo1, lo2, f9⟩; have tm1 := m1.lt; have tm2 := m2.lt; have z9 := f9.size; replace f := f.trans f9; (try replace m1 := m1.fr f9); (try replace m2 := m2.fr f9); (try (replace k5 := k5.fr f9; (try clear r_k5); have r_k5 := k5.cells)); (try (replace k10 := k10.fr f9; (try clear r_k10); have r_k10 := k10.cells)); (try (replace k14 := k14.fr f9; (try clear r_k14); have r_k14 := k14.cells)))
        | ((with_reducible refine gate_dst (N := 14) rfl ?_); refine wpList_alloc rfl _ rfl _ (lzero70 _) #[.map none, .map none, .int .i64 0] rfl ?_; intro g_k14 w9 hg_k14 k14 f9; have zf_k14 := f.size; have hl_k14 := k14.lt; have z9 := f9.size; replace f := f.trans f9; (try replace m1 := m1.fr f9); (try replace m2 := m2.fr f9); (try (replace k5 := k5.fr f9; (try clear r_k5); have r_k5 := k5.cells)); (try (replace k10 := k10.fr f9; (try clear r_k10); have r_k10 := k10.cells)); (try clear r_k14); have r_k14 := k14.cells)
        | (((with_reducible refine gate_store (p := 14) rfl ?_); refine wpList_bstore k14 rfl _ _ _ rfl 0 3 rfl (.agg #[.map (some g1), .map (some g2), .int .i64 b.locked]) rfl #[.map (some g1), .map (some g2), .int .i64 b.locked] rfl rfl size70 (by simp) (by intro u hu; simp at hu; rcases hu with rfl | rfl | rfl <;> rfl) #[.map (some g1), .map (some g2), .int .i64 b.locked] rfl ?_; intro w9 k9 c9; have z9 := c9.size; replace f := f.own c9 (fun q hq => by have := List.mem_singleton.1 hq; have := f.size; omega); (try (replace k5 := k5.chg c9 (fun hm => by have := List.mem_singleton.1 hm; omega); (try clear r_k5); have r_k5 := k5.cells)); (try (replace k10 := k10.chg c9 (fun hm => by have := List.mem_singleton.1 hm; omega); (try clear r_k10); have r_k10 := k10.cells)); replace k14 := k9; clear k9; (try clear r_k14); have r_k14 := k14.cells); (try replace m1 := m1.chg c9 (fun hm => by have := List.mem_singleton.1 hm; omega)); (try replace m2 := m2.chg c9 (fun hm => by have := List.mem_singleton.1 hm; omega)))
        | ((with_reducible refine gate_dst (N := 46) rfl ?_); refine wpList_bload k14 rfl _ _ rfl 0 3 rfl _ Try.underlying70 rfl size70 (by simp) #[.map (some g1), .map (some g2), .int .i64 b.locked] rfl ?_)
        | (go_at_call 64; (with_reducible refine (ownCoins_c _ _ _ _).mono ?_); rintro e w9 ⟨rfl, f9⟩; have z9 := f9.size; replace f := f.trans f9; (try replace m1 := m1.fr f9); (try replace m2 := m2.fr f9); (try (replace k5 := k5.fr f9; (try clear r_k5); have r_k5 := k5.cells)); (try (replace k10 := k10.fr f9; (try clear r_k10); have r_k10 := k10.cells)); (try (replace k14 := k14.fr f9; (try clear r_k14); have r_k14 := k14.cells)))
        | ((with_reducible refine gate_dst (N := 50) rfl ?_); refine wpList_lookv rfl _ _ rfl Try.underlying68 Try.underlying3 rfl m1 (fr.toNat - 1) LI.out x HX.out _ rfl (by omega) ?_)
        | ((with_reducible refine gate_store (p := 10) rfl ?_); refine wpList_bstore k10 rfl _ _ _ rfl 0 3 rfl (.agg #[.slice none 0 0, .slice none 0 0, .int .i64 0]) rfl #[.slice none 0 0, .slice none 0 0, .int .i64 0] rfl rfl size24 (by simp) (by intro u hu; simp at hu; rcases hu with rfl | rfl <;> rfl) #[.slice none 0 0, .slice none 0 0, .int .i64 0] rfl ?_; intro w9 k9 c9; have z9 := c9.size; replace f := f.own c9 (fun q hq => by have := List.mem_singleton.1 hq; have := f.size; omega); (try (replace k5 := k5.chg c9 (fun hm => by have := List.mem_singleton.1 hm; omega); (try clear r_k5); have r_k5 := k5.cells)); (try (replace k14 := k14.chg c9 (fun hm => by have := List.mem_singleton.1 hm; omega); (try clear r_k14); have r_k14 := k14.cells)); replace k10 := k9; clear k9; (try clear r_k10); have r_k10 := k10.cells))
      exact bodyPost_ret (v := .tuple #[.agg #[.slice none 0 0, .slice none 0 0, .int .i64 0], .bool false]) (results_cell_row2 rfl _ _ g_k10 _ _ _ _ rfl k10.blk Try.underlying24 rfl size24 _ rfl) rfl ⟨[.slice none 0 0, .slice none 0 0, .int .i64 0], [], by rw [e.out], by rw [e.out]; exact nilBk_own _, by simp, by simp, f⟩
    have hle : s ≤ x := by omega
    have ltf : decide (x < s) = false := decide_eq_false hlt
    obtain ⟨ys, hys⟩ : ∃ ys, addAt b.own (fr.toNat - 1) (-s) = ys := ⟨_, rfl⟩
    have hyl : ys.length = 3 := by rw [← hys, addAt_len]; omega
    have hy1 : b.own.set (fr.toNat - 1) (x - s) = ys := by rw [← hys, addAt, hx, show x - s = x + -s from Int.sub_eq_add_neg]
    have by' : 0 ≤ at0 ys (ds.toNat - 1) ∧ at0 ys (ds.toNat - 1) ≤ 30 := by
      have bz := okL_get q1 (ds.toNat - 1) (by omega)
      rw [at0_get (by omega)] at bz
      rw [← hys, at0_addAt _ _ _ _ (by omega), hx]
      split <;> omega
    obtain ⟨y, hy⟩ : ∃ y, at0 ys (ds.toNat - 1) = y := ⟨_, rfl⟩
    rw [hy] at by'
    obtain ⟨zs, hzs⟩ : ∃ zs, addAt ys (ds.toNat - 1) s = zs := ⟨_, rfl⟩
    have hz1 : ys.set (ds.toNat - 1) (y + s) = zs := by rw [← hzs, addAt, hy]
    have hzl : zs.length = 3 := by rw [← hzs, addAt_len]; exact hyl
    have e := Lib.hid (show moveR b 1 fr ds s = ((⟨zs, b.notes, b.locked⟩ : Bk), true) by rw [moveR_yes d1 hk2 hfr hds hs0 (by show s ≤ at0 b.own (fr.toNat - 1); rw [hx]; omega)]; show (setLst b 1 (addAt (addAt b.own (fr.toNat - 1) (-s)) (ds.toNat - 1) s), true) = _; rw [hys, hzs]; rfl)
    have HY := Lib.hid hy1
    have HZ := Lib.hid hz1
    have HX := Lib.hid hx
    have HYY := Lib.hid hy
    have LJ := Lib.hid (show ds.toNat - 1 < ys.length by omega)
    have LZ := Lib.hid (show zs.length = 3 ∧ b.notes.length = 3 by exact ⟨by omega, by omega⟩)
    clear ln1 ln2 hyl hzl hys hzs hy1 hz1 hx hy
    have Dd2 := Lib.hid d2
    clear d2
    have Dd3 := Lib.hid d3
    clear d3
    have Dd4 := Lib.hid d4
    clear d4
    have Dd1 := Lib.hid d1
    clear d1
    go_enter Try.func32, Try.ntmps32
    go_wp2_with (first
      | ((with_reducible refine gate_dst (N := 5) rfl ?_); refine wpList_box rfl _ _ rfl #[v1, v2, .int .i64 b.locked] rfl ?_; intro g_k5 w9 hg_k5 k5 f9; have zf_k5 := f.size; have hl_k5 := k5.lt; have z9 := f9.size; replace f := f.trans f9; (try replace m1 := m1.fr f9); (try replace m2 := m2.fr f9); (try replace ho1 := ho1.fr f9); (try replace ho2 := ho2.fr f9); (try (replace k10 := k10.fr f9; (try clear r_k10); have r_k10 := k10.cells)); (try (replace k14 := k14.fr f9; (try clear r_k14); have r_k14 := k14.cells)); (try clear r_k5); have r_k5 := k5.cells)
      | ((with_reducible refine gate_dst (N := 10) rfl ?_); refine wpList_alloc rfl _ rfl _ (zero24 _) #[.slice none 0 0, .slice none 0 0, .int .i64 0] rfl ?_; intro g_k10 w9 hg_k10 k10 f9; have zf_k10 := f.size; have hl_k10 := k10.lt; have z9 := f9.size; replace f := f.trans f9; (try replace m1 := m1.fr f9); (try replace m2 := m2.fr f9); (try replace ho1 := ho1.fr f9); (try replace ho2 := ho2.fr f9); (try (replace k5 := k5.fr f9; (try clear r_k5); have r_k5 := k5.cells)); (try (replace k14 := k14.fr f9; (try clear r_k14); have r_k14 := k14.cells)); (try clear r_k10); have r_k10 := k10.cells)
      | (go_at_call 58; (with_reducible refine (coinsOf_c _ _).mono ?_); rintro e w9 ⟨rfl, rfl⟩; rw [HC.out])
      | (go_at_call 26; (with_reducible refine (BankOk_c _ b [v1, v2, .int .i64 b.locked] (tBk_mk (h11.fr f) (h12.fr f) h13)).mono ?_); rintro e w9 ⟨rfl, f9⟩; (try rw [Dd2.out]); (try rw [Dd3.out]); (try rw [Dd4.out]); (try rw [Dd1.out]); have z9 := f9.size; replace f := f.trans f9; (try replace m1 := m1.fr f9); (try replace m2 := m2.fr f9); (try replace ho1 := ho1.fr f9); (try replace ho2 := ho2.fr f9); (try (replace k5 := k5.fr f9; (try clear r_k5); have r_k5 := k5.cells)); (try (replace k10 := k10.fr f9; (try clear r_k10); have r_k10 := k10.cells)); (try (replace k14 := k14.fr f9; (try clear r_k14); have r_k14 := k14.cells)))
      | (go_at_call 59; (with_reducible refine (userOk_c _ _).mono ?_); rintro e w9 ⟨rfl, rfl⟩; (try rw [Dd2.out]); (try rw [Dd3.out]); (try rw [Dd4.out]); (try rw [Dd1.out]))
      | (go_at_call 60; (with_reducible refine (ledgerOf_c _ b [v1, v2, .int .i64 b.locked] (tBk_mk (h11.fr f) (h12.fr f) h13) LN.out).mono ?_); rintro e w9 ⟨g1, g2, rfl, m1, m2, gne, lo1, lo2, f9⟩; have tm1 := m1.lt; have tm2 := m2.lt; have z9 := f9.size; replace f := f.trans f9; (try replace m1 := m1.fr f9); (try replace m2 := m2.fr f9); (try replace ho1 := ho1.fr f9); (try replace ho2 := ho2.fr f9); (try (replace k5 := k5.fr f9; (try clear r_k5); have r_k5 := k5.cells)); (try (replace k10 := k10.fr f9; (try clear r_k10); have r_k10 := k10.cells)); (try (replace k14 := k14.fr f9; (try clear r_k14); have r_k14 := k14.cells)))
      | ((with_reducible refine gate_dst (N := 14) rfl ?_); refine wpList_alloc rfl _ rfl _ (lzero70 _) #[.map none, .map none, .int .i64 0] rfl ?_; intro g_k14 w9 hg_k14 k14 f9; have zf_k14 := f.size; have hl_k14 := k14.lt; have z9 := f9.size; replace f := f.trans f9; (try replace m1 := m1.fr f9); (try replace m2 := m2.fr f9); (try replace ho1 := ho1.fr f9); (try replace ho2 := ho2.fr f9); (try (replace k5 := k5.fr f9; (try clear r_k5); have r_k5 := k5.cells)); (try (replace k10 := k10.fr f9; (try clear r_k10); have r_k10 := k10.cells)); (try clear r_k14); have r_k14 := k14.cells)
      | (((with_reducible refine gate_store (p := 14) rfl ?_); refine wpList_bstore k14 rfl _ _ _ rfl 0 3 rfl (.agg #[.map (some g1), .map (some g2), .int .i64 b.locked]) rfl #[.map (some g1), .map (some g2), .int .i64 b.locked] rfl rfl size70 (by simp) (by intro u hu; simp at hu; rcases hu with rfl | rfl | rfl <;> rfl) #[.map (some g1), .map (some g2), .int .i64 b.locked] rfl ?_; intro w9 k9 c9; have z9 := c9.size; replace f := f.own c9 (fun q hq => by have := List.mem_singleton.1 hq; have := f.size; omega); (try replace ho1 := ho1.chg c9 (fun q hq hm => by have := hb1 q hq; have := hu1 q hq; have := List.mem_singleton.1 hm; omega)); (try replace ho2 := ho2.chg c9 (fun q hq hm => by have := hb2 q hq; have := hu2 q hq; have := List.mem_singleton.1 hm; omega)); (try (replace k5 := k5.chg c9 (fun hm => by have := List.mem_singleton.1 hm; omega); (try clear r_k5); have r_k5 := k5.cells)); (try (replace k10 := k10.chg c9 (fun hm => by have := List.mem_singleton.1 hm; omega); (try clear r_k10); have r_k10 := k10.cells)); replace k14 := k9; clear k9; (try clear r_k14); have r_k14 := k14.cells); (try replace m1 := m1.chg c9 (fun hm => by have := List.mem_singleton.1 hm; omega)); (try replace m2 := m2.chg c9 (fun hm => by have := List.mem_singleton.1 hm; omega)))
      | ((with_reducible refine gate_dst (N := 46) rfl ?_); refine wpList_bload k14 rfl _ _ rfl 0 3 rfl _ Try.underlying70 rfl size70 (by simp) #[.map (some g1), .map (some g2), .int .i64 b.locked] rfl ?_)
      | (go_at_call 64; (with_reducible refine (ownCoins_c _ _ _ _).mono ?_); rintro e w9 ⟨rfl, f9⟩; have z9 := f9.size; replace f := f.trans f9; (try replace m1 := m1.fr f9); (try replace m2 := m2.fr f9); (try replace ho1 := ho1.fr f9); (try replace ho2 := ho2.fr f9); (try (replace k5 := k5.fr f9; (try clear r_k5); have r_k5 := k5.cells)); (try (replace k10 := k10.fr f9; (try clear r_k10); have r_k10 := k10.cells)); (try (replace k14 := k14.fr f9; (try clear r_k14); have r_k14 := k14.cells)))
      | ((with_reducible refine gate_dst (N := 50) rfl ?_); refine wpList_lookv rfl _ _ rfl Try.underlying68 Try.underlying3 rfl m1 (fr.toNat - 1) LI.out x HX.out _ rfl (by omega) ?_)
      | ((with_reducible refine gate_dst (N := 56) rfl ?_); refine wpList_lookv rfl _ _ rfl Try.underlying68 Try.underlying3 rfl m1 (fr.toNat - 1) LI.out x HX.out _ rfl (by omega) ?_)
      | ((with_reducible refine gate_map rfl ?_); refine wpList_mapset rfl _ _ _ rfl Try.underlying68 Try.underlying3 rfl m1 (fr.toNat - 1) LI.out _ (x - s) rfl rfl (by omega) ?_; intro w9 h9 c9; rw [HY.out] at h9; have z9 := c9.size; replace f := f.own c9 (fun q hq => by have := List.mem_singleton.1 hq; omega); replace m1 := h9; clear h9; replace m2 := m2.chg c9 (fun hm => by have := List.mem_singleton.1 hm; omega); replace k5 := k5.chg c9 (fun hm => by have := List.mem_singleton.1 hm; omega); replace k10 := k10.chg c9 (fun hm => by have := List.mem_singleton.1 hm; omega); replace k14 := k14.chg c9 (fun hm => by have := List.mem_singleton.1 hm; omega); (try clear r_k5); (try clear r_k10); (try clear r_k14); have r_k14 := k14.cells)
      | ((with_reducible refine gate_dst (N := 61) rfl ?_); refine wpList_lookv rfl _ _ rfl Try.underlying68 Try.underlying3 rfl m1 (ds.toNat - 1) LJ.out y HYY.out _ rfl (by omega) ?_)
      | ((with_reducible refine gate_map rfl ?_); refine wpList_mapset rfl _ _ _ rfl Try.underlying68 Try.underlying3 rfl m1 (ds.toNat - 1) LJ.out _ (y + s) rfl rfl (by omega) ?_; intro w9 h9 c9; rw [HZ.out] at h9; have z9 := c9.size; replace f := f.own c9 (fun q hq => by have := List.mem_singleton.1 hq; omega); replace m1 := h9; clear h9; replace m2 := m2.chg c9 (fun hm => by have := List.mem_singleton.1 hm; omega); replace k5 := k5.chg c9 (fun hm => by have := List.mem_singleton.1 hm; omega); replace k10 := k10.chg c9 (fun hm => by have := List.mem_singleton.1 hm; omega); replace k14 := k14.chg c9 (fun hm => by have := List.mem_singleton.1 hm; omega); (try clear r_k5); (try clear r_k10); (try clear r_k14); have r_k14 := k14.cells)
      | ((with_reducible refine gate_dst (N := 64) rfl ?_); refine wpList_bload k14 rfl _ _ rfl 0 3 rfl _ Try.underlying70 rfl size70 (by simp) #[.map (some g1), .map (some g2), .int .i64 b.locked] rfl ?_)
      | (go_at_call 61; (with_reducible refine (ledgerBank_c _ g1 g2 zs b.notes b.locked m1 m2 LZ.out h13).mono ?_); rintro e w9 ⟨_, F, rfl, ⟨o1, o2, F1, F2, rfl, rfl, ho1, ho2, _⟩, hn, hb0, f9⟩; have hb1 := fun g hg => hb0 g (List.mem_append_left _ hg); have hb2 := fun g hg => hb0 g (List.mem_append_right _ hg); have hu1 := ho1.lt; have hu2 := ho2.lt; have z9 := f9.size; replace f := f.trans f9; (try replace m1 := m1.fr f9); (try replace m2 := m2.fr f9); (try replace ho1 := ho1.fr f9); (try replace ho2 := ho2.fr f9); (try (replace k5 := k5.fr f9; (try clear r_k5); have r_k5 := k5.cells)); (try (replace k10 := k10.fr f9; (try clear r_k10); have r_k10 := k10.cells)); (try (replace k14 := k14.fr f9; (try clear r_k14); have r_k14 := k14.cells)))
      | ((with_reducible refine gate_store (p := 10) rfl ?_); refine wpList_bstore k10 rfl _ _ _ rfl 0 3 rfl (.agg #[o1, o2, .int .i64 b.locked]) rfl #[o1, o2, .int .i64 b.locked] rfl rfl size24 (by simp) (by intro u hu; simp at hu; rcases hu with rfl | rfl | rfl; exact ho1.one; exact ho2.one; rfl) #[o1, o2, .int .i64 b.locked] rfl ?_; intro w9 k9 c9; have z9 := c9.size; replace f := f.own c9 (fun q hq => by have := List.mem_singleton.1 hq; have := f.size; omega); (try replace ho1 := ho1.chg c9 (fun q hq hm => by have := hb1 q hq; have := hu1 q hq; have := List.mem_singleton.1 hm; omega)); (try replace ho2 := ho2.chg c9 (fun q hq hm => by have := hb2 q hq; have := hu2 q hq; have := List.mem_singleton.1 hm; omega)); (try (replace k5 := k5.chg c9 (fun hm => by have := List.mem_singleton.1 hm; omega); (try clear r_k5); have r_k5 := k5.cells)); (try (replace k14 := k14.chg c9 (fun hm => by have := List.mem_singleton.1 hm; omega); (try clear r_k14); have r_k14 := k14.cells)); replace k10 := k9; clear k9; (try clear r_k10); have r_k10 := k10.cells))
    exact bodyPost_ret (v := .tuple #[.agg #[o1, o2, .int .i64 b.locked], .bool true]) (results_cell_row2 rfl _ _ g_k10 _ _ _ _ rfl k10.blk Try.underlying24 rfl size24 _ rfl) rfl ⟨[o1, o2, .int .i64 b.locked], F1 ++ F2, by rw [e.out], by rw [e.out]; exact ⟨_, _, F1, F2, rfl, rfl, ho1, ho2, h13⟩, hn, lo_append (lo_mono hb1 (by omega)) (lo_mono hb2 (by omega)) (Nat.le_refl _), f⟩
  · skip
    have HC := Lib.hid (show coinsV 2 = .tuple #[.func (.func 65) #[] #[], .bool true] from rfl)
    have bx := okL_get q2 (fr.toNat - 1) (by omega)
    rw [at0_get (by omega)] at bx
    obtain ⟨x, hx⟩ : ∃ x, at0 b.notes (fr.toNat - 1) = x := ⟨_, rfl⟩
    rw [hx] at bx
    have LI := Lib.hid (show fr.toNat - 1 < b.notes.length by omega)
    by_cases hlt : x < s
    · have e := Lib.hid (show moveR b 2 fr ds s = (nilBk, false) from moveR_no d1 hk2 hfr hds hs0 (by show ¬ s ≤ at0 b.notes (fr.toNat - 1); rw [hx]; omega))
      have HX := Lib.hid hx
      clear hx ln1 ln2
      have Dd2 := Lib.hid d2
      clear d2
      have Dd3 := Lib.hid d3
      clear d3
      have Dd4 := Lib.hid d4
      clear d4
      have Dd1 := Lib.hid d1
      clear d1
      go_enter Try.func32, Try.ntmps32
      go_wp2_with (first
        | ((with_reducible refine gate_dst (N := 5) rfl ?_); refine wpList_box rfl _ _ rfl #[v1, v2, .int .i64 b.locked] rfl ?_; intro g_k5 w9 hg_k5 k5 f9; have zf_k5 := f.size; have hl_k5 := k5.lt; have z9 := f9.size; replace f := f.trans f9; (try replace m1 := m1.fr f9); (try replace m2 := m2.fr f9); (try (replace k10 := k10.fr f9; (try clear r_k10); have r_k10 := k10.cells)); (try (replace k14 := k14.fr f9; (try clear r_k14); have r_k14 := k14.cells)); (try clear r_k5); have r_k5 := k5.cells)
        | ((with_reducible refine gate_dst (N := 10) rfl ?_); refine wpList_alloc rfl _ rfl _ (zero24 _) #[.slice none 0 0, .slice none 0 0, .int .i64 0] rfl ?_; intro g_k10 w9 hg_k10 k10 f9; have zf_k10 := f.size; have hl_k10 := k10.lt; have z9 := f9.size; replace f := f.trans f9; (try replace m1 := m1.fr f9); (try replace m2 := m2.fr f9); (try (replace k5 := k5.fr f9; (try clear r_k5); have r_k5 := k5.cells)); (try (replace k14 := k14.fr f9; (try clear r_k14); have r_k14 := k14.cells)); (try clear r_k10); have r_k10 := k10.cells)
        | (go_at_call 58; (with_reducible refine (coinsOf_c _ _).mono ?_); rintro e w9 ⟨rfl, rfl⟩; rw [HC.out])
        | (go_at_call 26; (with_reducible refine (BankOk_c _ b [v1, v2, .int .i64 b.locked] (tBk_mk (h11.fr f) (h12.fr f) h13)).mono ?_); rintro e w9 ⟨rfl, f9⟩; (try rw [Dd2.out]); (try rw [Dd3.out]); (try rw [Dd4.out]); (try rw [Dd1.out]); have z9 := f9.size; replace f := f.trans f9; (try replace m1 := m1.fr f9); (try replace m2 := m2.fr f9); (try (replace k5 := k5.fr f9; (try clear r_k5); have r_k5 := k5.cells)); (try (replace k10 := k10.fr f9; (try clear r_k10); have r_k10 := k10.cells)); (try (replace k14 := k14.fr f9; (try clear r_k14); have r_k14 := k14.cells)))
        | (go_at_call 59; (with_reducible refine (userOk_c _ _).mono ?_); rintro e w9 ⟨rfl, rfl⟩; (try rw [Dd2.out]); (try rw [Dd3.out]); (try rw [Dd4.out]); (try rw [Dd1.out]))
        | (go_at_call 60; (with_reducible refine (ledgerOf_c _ b [v1, v2, .int .i64 b.locked] (tBk_mk (h11.fr f) (h12.fr f) h13) LN.out).mono ?_); rintro e w9 ⟨g1, g2, rfl, m1, m2, gne, lo1, lo2, f9⟩; have tm1 := m1.lt; have tm2 := m2.lt; have z9 := f9.size; replace f := f.trans f9; (try replace m1 := m1.fr f9); (try replace m2 := m2.fr f9); (try (replace k5 := k5.fr f9; (try clear r_k5); have r_k5 := k5.cells)); (try (replace k10 := k10.fr f9; (try clear r_k10); have r_k10 := k10.cells)); (try (replace k14 := k14.fr f9; (try clear r_k14); have r_k14 := k14.cells)))
        | ((with_reducible refine gate_dst (N := 14) rfl ?_); refine wpList_alloc rfl _ rfl _ (lzero70 _) #[.map none, .map none, .int .i64 0] rfl ?_; intro g_k14 w9 hg_k14 k14 f9; have zf_k14 := f.size; have hl_k14 := k14.lt; have z9 := f9.size; replace f := f.trans f9; (try replace m1 := m1.fr f9); (try replace m2 := m2.fr f9); (try (replace k5 := k5.fr f9; (try clear r_k5); have r_k5 := k5.cells)); (try (replace k10 := k10.fr f9; (try clear r_k10); have r_k10 := k10.cells)); (try clear r_k14); have r_k14 := k14.cells)
        | (((with_reducible refine gate_store (p := 14) rfl ?_); refine wpList_bstore k14 rfl _ _ _ rfl 0 3 rfl (.agg #[.map (some g1), .map (some g2), .int .i64 b.locked]) rfl #[.map (some g1), .map (some g2), .int .i64 b.locked] rfl rfl size70 (by simp) (by intro u hu; simp at hu; rcases hu with rfl | rfl | rfl <;> rfl) #[.map (some g1), .map (some g2), .int .i64 b.locked] rfl ?_; intro w9 k9 c9; have z9 := c9.size; replace f := f.own c9 (fun q hq => by have := List.mem_singleton.1 hq; have := f.size; omega); (try (replace k5 := k5.chg c9 (fun hm => by have := List.mem_singleton.1 hm; omega); (try clear r_k5); have r_k5 := k5.cells)); (try (replace k10 := k10.chg c9 (fun hm => by have := List.mem_singleton.1 hm; omega); (try clear r_k10); have r_k10 := k10.cells)); replace k14 := k9; clear k9; (try clear r_k14); have r_k14 := k14.cells); (try replace m1 := m1.chg c9 (fun hm => by have := List.mem_singleton.1 hm; omega)); (try replace m2 := m2.chg c9 (fun hm => by have := List.mem_singleton.1 hm; omega)))
        | ((with_reducible refine gate_dst (N := 46) rfl ?_); refine wpList_bload k14 rfl _ _ rfl 0 3 rfl _ Try.underlying70 rfl size70 (by simp) #[.map (some g1), .map (some g2), .int .i64 b.locked] rfl ?_)
        | (go_at_call 65; (with_reducible refine (noteCoins_c _ _ _ _).mono ?_); rintro e w9 ⟨rfl, f9⟩; have z9 := f9.size; replace f := f.trans f9; (try replace m1 := m1.fr f9); (try replace m2 := m2.fr f9); (try (replace k5 := k5.fr f9; (try clear r_k5); have r_k5 := k5.cells)); (try (replace k10 := k10.fr f9; (try clear r_k10); have r_k10 := k10.cells)); (try (replace k14 := k14.fr f9; (try clear r_k14); have r_k14 := k14.cells)))
        | ((with_reducible refine gate_dst (N := 50) rfl ?_); refine wpList_lookv rfl _ _ rfl Try.underlying68 Try.underlying3 rfl m2 (fr.toNat - 1) LI.out x HX.out _ rfl (by omega) ?_)
        | ((with_reducible refine gate_store (p := 10) rfl ?_); refine wpList_bstore k10 rfl _ _ _ rfl 0 3 rfl (.agg #[.slice none 0 0, .slice none 0 0, .int .i64 0]) rfl #[.slice none 0 0, .slice none 0 0, .int .i64 0] rfl rfl size24 (by simp) (by intro u hu; simp at hu; rcases hu with rfl | rfl <;> rfl) #[.slice none 0 0, .slice none 0 0, .int .i64 0] rfl ?_; intro w9 k9 c9; have z9 := c9.size; replace f := f.own c9 (fun q hq => by have := List.mem_singleton.1 hq; have := f.size; omega); (try (replace k5 := k5.chg c9 (fun hm => by have := List.mem_singleton.1 hm; omega); (try clear r_k5); have r_k5 := k5.cells)); (try (replace k14 := k14.chg c9 (fun hm => by have := List.mem_singleton.1 hm; omega); (try clear r_k14); have r_k14 := k14.cells)); replace k10 := k9; clear k9; (try clear r_k10); have r_k10 := k10.cells))
      exact bodyPost_ret (v := .tuple #[.agg #[.slice none 0 0, .slice none 0 0, .int .i64 0], .bool false]) (results_cell_row2 rfl _ _ g_k10 _ _ _ _ rfl k10.blk Try.underlying24 rfl size24 _ rfl) rfl ⟨[.slice none 0 0, .slice none 0 0, .int .i64 0], [], by rw [e.out], by rw [e.out]; exact nilBk_own _, by simp, by simp, f⟩
    have hle : s ≤ x := by omega
    have ltf : decide (x < s) = false := decide_eq_false hlt
    obtain ⟨ys, hys⟩ : ∃ ys, addAt b.notes (fr.toNat - 1) (-s) = ys := ⟨_, rfl⟩
    have hyl : ys.length = 3 := by rw [← hys, addAt_len]; omega
    have hy1 : b.notes.set (fr.toNat - 1) (x - s) = ys := by rw [← hys, addAt, hx, show x - s = x + -s from Int.sub_eq_add_neg]
    have by' : 0 ≤ at0 ys (ds.toNat - 1) ∧ at0 ys (ds.toNat - 1) ≤ 30 := by
      have bz := okL_get q2 (ds.toNat - 1) (by omega)
      rw [at0_get (by omega)] at bz
      rw [← hys, at0_addAt _ _ _ _ (by omega), hx]
      split <;> omega
    obtain ⟨y, hy⟩ : ∃ y, at0 ys (ds.toNat - 1) = y := ⟨_, rfl⟩
    rw [hy] at by'
    obtain ⟨zs, hzs⟩ : ∃ zs, addAt ys (ds.toNat - 1) s = zs := ⟨_, rfl⟩
    have hz1 : ys.set (ds.toNat - 1) (y + s) = zs := by rw [← hzs, addAt, hy]
    have hzl : zs.length = 3 := by rw [← hzs, addAt_len]; exact hyl
    have e := Lib.hid (show moveR b 2 fr ds s = ((⟨b.own, zs, b.locked⟩ : Bk), true) by rw [moveR_yes d1 hk2 hfr hds hs0 (by show s ≤ at0 b.notes (fr.toNat - 1); rw [hx]; omega)]; show (setLst b 2 (addAt (addAt b.notes (fr.toNat - 1) (-s)) (ds.toNat - 1) s), true) = _; rw [hys, hzs]; rfl)
    have HY := Lib.hid hy1
    have HZ := Lib.hid hz1
    have HX := Lib.hid hx
    have HYY := Lib.hid hy
    have LJ := Lib.hid (show ds.toNat - 1 < ys.length by omega)
    have LZ := Lib.hid (show b.own.length = 3 ∧ zs.length = 3 by exact ⟨by omega, by omega⟩)
    clear ln1 ln2 hyl hzl hys hzs hy1 hz1 hx hy
    have Dd2 := Lib.hid d2
    clear d2
    have Dd3 := Lib.hid d3
    clear d3
    have Dd4 := Lib.hid d4
    clear d4
    have Dd1 := Lib.hid d1
    clear d1
    go_enter Try.func32, Try.ntmps32
    go_wp2_with (first
      | ((with_reducible refine gate_dst (N := 5) rfl ?_); refine wpList_box rfl _ _ rfl #[v1, v2, .int .i64 b.locked] rfl ?_; intro g_k5 w9 hg_k5 k5 f9; have zf_k5 := f.size; have hl_k5 := k5.lt; have z9 := f9.size; replace f := f.trans f9; (try replace m1 := m1.fr f9); (try replace m2 := m2.fr f9); (try replace ho1 := ho1.fr f9); (try replace ho2 := ho2.fr f9); (try (replace k10 := k10.fr f9; (try clear r_k10); have r_k10 := k10.cells)); (try (replace k14 := k14.fr f9; (try clear r_k14); have r_k14 := k14.cells)); (try clear r_k5); have r_k5 := k5.cells)
      | ((with_reducible refine gate_dst (N := 10) rfl ?_); refine wpList_alloc rfl _ rfl _ (zero24 _) #[.slice none 0 0, .slice none 0 0, .int .i64 0] rfl ?_; intro g_k10 w9 hg_k10 k10 f9; have zf_k10 := f.size; have hl_k10 := k10.lt; have z9 := f9.size; replace f := f.trans f9; (try replace m1 := m1.fr f9); (try replace m2 := m2.fr f9); (try replace ho1 := ho1.fr f9); (try replace ho2 := ho2.fr f9); (try (replace k5 := k5.fr f9; (try clear r_k5); have r_k5 := k5.cells)); (try (replace k14 := k14.fr f9; (try clear r_k14); have r_k14 := k14.cells)); (try clear r_k10); have r_k10 := k10.cells)
      | (go_at_call 58; (with_reducible refine (coinsOf_c _ _).mono ?_); rintro e w9 ⟨rfl, rfl⟩; rw [HC.out])
      | (go_at_call 26; (with_reducible refine (BankOk_c _ b [v1, v2, .int .i64 b.locked] (tBk_mk (h11.fr f) (h12.fr f) h13)).mono ?_); rintro e w9 ⟨rfl, f9⟩; (try rw [Dd2.out]); (try rw [Dd3.out]); (try rw [Dd4.out]); (try rw [Dd1.out]); have z9 := f9.size; replace f := f.trans f9; (try replace m1 := m1.fr f9); (try replace m2 := m2.fr f9); (try replace ho1 := ho1.fr f9); (try replace ho2 := ho2.fr f9); (try (replace k5 := k5.fr f9; (try clear r_k5); have r_k5 := k5.cells)); (try (replace k10 := k10.fr f9; (try clear r_k10); have r_k10 := k10.cells)); (try (replace k14 := k14.fr f9; (try clear r_k14); have r_k14 := k14.cells)))
      | (go_at_call 59; (with_reducible refine (userOk_c _ _).mono ?_); rintro e w9 ⟨rfl, rfl⟩; (try rw [Dd2.out]); (try rw [Dd3.out]); (try rw [Dd4.out]); (try rw [Dd1.out]))
      | (go_at_call 60; (with_reducible refine (ledgerOf_c _ b [v1, v2, .int .i64 b.locked] (tBk_mk (h11.fr f) (h12.fr f) h13) LN.out).mono ?_); rintro e w9 ⟨g1, g2, rfl, m1, m2, gne, lo1, lo2, f9⟩; have tm1 := m1.lt; have tm2 := m2.lt; have z9 := f9.size; replace f := f.trans f9; (try replace m1 := m1.fr f9); (try replace m2 := m2.fr f9); (try replace ho1 := ho1.fr f9); (try replace ho2 := ho2.fr f9); (try (replace k5 := k5.fr f9; (try clear r_k5); have r_k5 := k5.cells)); (try (replace k10 := k10.fr f9; (try clear r_k10); have r_k10 := k10.cells)); (try (replace k14 := k14.fr f9; (try clear r_k14); have r_k14 := k14.cells)))
      | ((with_reducible refine gate_dst (N := 14) rfl ?_); refine wpList_alloc rfl _ rfl _ (lzero70 _) #[.map none, .map none, .int .i64 0] rfl ?_; intro g_k14 w9 hg_k14 k14 f9; have zf_k14 := f.size; have hl_k14 := k14.lt; have z9 := f9.size; replace f := f.trans f9; (try replace m1 := m1.fr f9); (try replace m2 := m2.fr f9); (try replace ho1 := ho1.fr f9); (try replace ho2 := ho2.fr f9); (try (replace k5 := k5.fr f9; (try clear r_k5); have r_k5 := k5.cells)); (try (replace k10 := k10.fr f9; (try clear r_k10); have r_k10 := k10.cells)); (try clear r_k14); have r_k14 := k14.cells)
      | (((with_reducible refine gate_store (p := 14) rfl ?_); refine wpList_bstore k14 rfl _ _ _ rfl 0 3 rfl (.agg #[.map (some g1), .map (some g2), .int .i64 b.locked]) rfl #[.map (some g1), .map (some g2), .int .i64 b.locked] rfl rfl size70 (by simp) (by intro u hu; simp at hu; rcases hu with rfl | rfl | rfl <;> rfl) #[.map (some g1), .map (some g2), .int .i64 b.locked] rfl ?_; intro w9 k9 c9; have z9 := c9.size; replace f := f.own c9 (fun q hq => by have := List.mem_singleton.1 hq; have := f.size; omega); (try replace ho1 := ho1.chg c9 (fun q hq hm => by have := hb1 q hq; have := hu1 q hq; have := List.mem_singleton.1 hm; omega)); (try replace ho2 := ho2.chg c9 (fun q hq hm => by have := hb2 q hq; have := hu2 q hq; have := List.mem_singleton.1 hm; omega)); (try (replace k5 := k5.chg c9 (fun hm => by have := List.mem_singleton.1 hm; omega); (try clear r_k5); have r_k5 := k5.cells)); (try (replace k10 := k10.chg c9 (fun hm => by have := List.mem_singleton.1 hm; omega); (try clear r_k10); have r_k10 := k10.cells)); replace k14 := k9; clear k9; (try clear r_k14); have r_k14 := k14.cells); (try replace m1 := m1.chg c9 (fun hm => by have := List.mem_singleton.1 hm; omega)); (try replace m2 := m2.chg c9 (fun hm => by have := List.mem_singleton.1 hm; omega)))
      | ((with_reducible refine gate_dst (N := 46) rfl ?_); refine wpList_bload k14 rfl _ _ rfl 0 3 rfl _ Try.underlying70 rfl size70 (by simp) #[.map (some g1), .map (some g2), .int .i64 b.locked] rfl ?_)
      | (go_at_call 65; (with_reducible refine (noteCoins_c _ _ _ _).mono ?_); rintro e w9 ⟨rfl, f9⟩; have z9 := f9.size; replace f := f.trans f9; (try replace m1 := m1.fr f9); (try replace m2 := m2.fr f9); (try replace ho1 := ho1.fr f9); (try replace ho2 := ho2.fr f9); (try (replace k5 := k5.fr f9; (try clear r_k5); have r_k5 := k5.cells)); (try (replace k10 := k10.fr f9; (try clear r_k10); have r_k10 := k10.cells)); (try (replace k14 := k14.fr f9; (try clear r_k14); have r_k14 := k14.cells)))
      | ((with_reducible refine gate_dst (N := 50) rfl ?_); refine wpList_lookv rfl _ _ rfl Try.underlying68 Try.underlying3 rfl m2 (fr.toNat - 1) LI.out x HX.out _ rfl (by omega) ?_)
      | ((with_reducible refine gate_dst (N := 56) rfl ?_); refine wpList_lookv rfl _ _ rfl Try.underlying68 Try.underlying3 rfl m2 (fr.toNat - 1) LI.out x HX.out _ rfl (by omega) ?_)
      | ((with_reducible refine gate_map rfl ?_); refine wpList_mapset rfl _ _ _ rfl Try.underlying68 Try.underlying3 rfl m2 (fr.toNat - 1) LI.out _ (x - s) rfl rfl (by omega) ?_; intro w9 h9 c9; rw [HY.out] at h9; have z9 := c9.size; replace f := f.own c9 (fun q hq => by have := List.mem_singleton.1 hq; omega); replace m2 := h9; clear h9; replace m1 := m1.chg c9 (fun hm => by have := List.mem_singleton.1 hm; omega); replace k5 := k5.chg c9 (fun hm => by have := List.mem_singleton.1 hm; omega); replace k10 := k10.chg c9 (fun hm => by have := List.mem_singleton.1 hm; omega); replace k14 := k14.chg c9 (fun hm => by have := List.mem_singleton.1 hm; omega); (try clear r_k5); (try clear r_k10); (try clear r_k14); have r_k14 := k14.cells)
      | ((with_reducible refine gate_dst (N := 61) rfl ?_); refine wpList_lookv rfl _ _ rfl Try.underlying68 Try.underlying3 rfl m2 (ds.toNat - 1) LJ.out y HYY.out _ rfl (by omega) ?_)
      | ((with_reducible refine gate_map rfl ?_); refine wpList_mapset rfl _ _ _ rfl Try.underlying68 Try.underlying3 rfl m2 (ds.toNat - 1) LJ.out _ (y + s) rfl rfl (by omega) ?_; intro w9 h9 c9; rw [HZ.out] at h9; have z9 := c9.size; replace f := f.own c9 (fun q hq => by have := List.mem_singleton.1 hq; omega); replace m2 := h9; clear h9; replace m1 := m1.chg c9 (fun hm => by have := List.mem_singleton.1 hm; omega); replace k5 := k5.chg c9 (fun hm => by have := List.mem_singleton.1 hm; omega); replace k10 := k10.chg c9 (fun hm => by have := List.mem_singleton.1 hm; omega); replace k14 := k14.chg c9 (fun hm => by have := List.mem_singleton.1 hm; omega); (try clear r_k5); (try clear r_k10); (try clear r_k14); have r_k14 := k14.cells)
      | ((with_reducible refine gate_dst (N := 64) rfl ?_); refine wpList_bload k14 rfl _ _ rfl 0 3 rfl _ Try.underlying70 rfl size70 (by simp) #[.map (some g1), .map (some g2), .int .i64 b.locked] rfl ?_)
      | (go_at_call 61; (with_reducible refine (ledgerBank_c _ g1 g2 b.own zs b.locked m1 m2 LZ.out h13).mono ?_); rintro e w9 ⟨_, F, rfl, ⟨o1, o2, F1, F2, rfl, rfl, ho1, ho2, _⟩, hn, hb0, f9⟩; have hb1 := fun g hg => hb0 g (List.mem_append_left _ hg); have hb2 := fun g hg => hb0 g (List.mem_append_right _ hg); have hu1 := ho1.lt; have hu2 := ho2.lt; have z9 := f9.size; replace f := f.trans f9; (try replace m1 := m1.fr f9); (try replace m2 := m2.fr f9); (try replace ho1 := ho1.fr f9); (try replace ho2 := ho2.fr f9); (try (replace k5 := k5.fr f9; (try clear r_k5); have r_k5 := k5.cells)); (try (replace k10 := k10.fr f9; (try clear r_k10); have r_k10 := k10.cells)); (try (replace k14 := k14.fr f9; (try clear r_k14); have r_k14 := k14.cells)))
      | ((with_reducible refine gate_store (p := 10) rfl ?_); refine wpList_bstore k10 rfl _ _ _ rfl 0 3 rfl (.agg #[o1, o2, .int .i64 b.locked]) rfl #[o1, o2, .int .i64 b.locked] rfl rfl size24 (by simp) (by intro u hu; simp at hu; rcases hu with rfl | rfl | rfl; exact ho1.one; exact ho2.one; rfl) #[o1, o2, .int .i64 b.locked] rfl ?_; intro w9 k9 c9; have z9 := c9.size; replace f := f.own c9 (fun q hq => by have := List.mem_singleton.1 hq; have := f.size; omega); (try replace ho1 := ho1.chg c9 (fun q hq hm => by have := hb1 q hq; have := hu1 q hq; have := List.mem_singleton.1 hm; omega)); (try replace ho2 := ho2.chg c9 (fun q hq hm => by have := hb2 q hq; have := hu2 q hq; have := List.mem_singleton.1 hm; omega)); (try (replace k5 := k5.chg c9 (fun hm => by have := List.mem_singleton.1 hm; omega); (try clear r_k5); have r_k5 := k5.cells)); (try (replace k14 := k14.chg c9 (fun hm => by have := List.mem_singleton.1 hm; omega); (try clear r_k14); have r_k14 := k14.cells)); replace k10 := k9; clear k9; (try clear r_k10); have r_k10 := k10.cells))
    exact bodyPost_ret (v := .tuple #[.agg #[o1, o2, .int .i64 b.locked], .bool true]) (results_cell_row2 rfl _ _ g_k10 _ _ _ _ rfl k10.blk Try.underlying24 rfl size24 _ rfl) rfl ⟨[o1, o2, .int .i64 b.locked], F1 ++ F2, by rw [e.out], by rw [e.out]; exact ⟨_, _, F1, F2, rfl, rfl, ho1, ho2, h13⟩, hn, lo_append (lo_mono hb1 (by omega)) (lo_mono hb2 (by omega)) (Nat.le_refl _), f⟩
end Go.Proofs.Ytnpggjlhdnbgoaa
