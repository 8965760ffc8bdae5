/- The program's BankBack. -/
import Derived.Test.YtnpggjlhdnbgoaaImplMove
import Derived.Test.YtnpggjlhdnbgoaaBankAway
namespace Go.Proofs.Ytnpggjlhdnbgoaa
set_option linter.unusedVariables false
set_option linter.unusedSimpArgs false
open Go.RowKit
set_option maxHeartbeats 6400000 in
theorem BankBack_c (w : World) (b : Bk) (c1 : List Value) (h1 : tBk.rd w b c1) (k fr s : Int) (bk : I64 k) (bf : I64 fr) (bs : I64 s) : Calls Try.prog 39 #[.agg c1.toArray, .int .i64 k, .int .i64 fr, .int .i64 s] w (RetOwn2 tBk (backR b k fr s) w) := by
  obtain ⟨v1, v2, rfl, h11, h12, h13⟩ := h1
  have f := Fr.refl w
  unfold I64 at bk bf bs
  cases d2 : decide (1 ≤ k ∧ k ≤ 2) with
  | false =>
    have e := Lib.hid (show backR b k fr s = (nilBk, false) by unfold backR; rw [if_neg (by simp only [bkOk, d2]; simp)])
    have HC := Lib.hid (coinsV_no (of_decide_eq_false d2))
    have Dd2 := Lib.hid d2
    clear d2
    go_enter Try.func39, Try.ntmps39
    go_wp2_with (first
      | ((with_reducible refine gate_dst (N := 4) rfl ?_); refine wpList_box rfl _ _ rfl #[v1, v2, .int .i64 b.locked] rfl ?_; intro g_k4 w9 hg_k4 k4 f9; have zf_k4 := f.size; have hl_k4 := k4.lt; have z9 := f9.size; replace f := f.trans f9; (try (replace k8 := k8.fr f9; (try clear r_k8); have r_k8 := k8.cells)); (try (replace k12 := k12.fr f9; (try clear r_k12); have r_k12 := k12.cells)); (try clear r_k4); have r_k4 := k4.cells)
      | ((with_reducible refine gate_dst (N := 8) rfl ?_); refine wpList_alloc rfl _ rfl _ (zero24 _) #[.slice none 0 0, .slice none 0 0, .int .i64 0] rfl ?_; intro g_k8 w9 hg_k8 k8 f9; have zf_k8 := f.size; have hl_k8 := k8.lt; have z9 := f9.size; replace f := f.trans f9; (try (replace k4 := k4.fr f9; (try clear r_k4); have r_k4 := k4.cells)); (try (replace k12 := k12.fr f9; (try clear r_k12); have r_k12 := k12.cells)); (try clear r_k8); have r_k8 := k8.cells)
      | (go_at_call 58; (with_reducible refine (coinsOf_c _ _).mono ?_); rintro e w9 ⟨rfl, rfl⟩; rw [HC.out])
      | (go_at_call 26; (with_reducible refine (BankOk_c _ b [v1, v2, .int .i64 b.locked] (tBk_mk (h11.fr f) (h12.fr f) h13)).mono ?_); rintro e w9 ⟨rfl, f9⟩; (try rw [Dd2.out]); have z9 := f9.size; replace f := f.trans f9; (try (replace k4 := k4.fr f9; (try clear r_k4); have r_k4 := k4.cells)); (try (replace k8 := k8.fr f9; (try clear r_k8); have r_k8 := k8.cells)); (try (replace k12 := k12.fr f9; (try clear r_k12); have r_k12 := k12.cells)))
      | (go_at_call 59; (with_reducible refine (userOk_c _ _).mono ?_); rintro e w9 ⟨rfl, rfl⟩; (try rw [Dd2.out]))
      | ((with_reducible refine gate_store (p := 8) rfl ?_); refine wpList_bstore k8 rfl _ _ _ rfl 0 3 rfl (.agg #[.slice none 0 0, .slice none 0 0, .int .i64 0]) rfl #[.slice none 0 0, .slice none 0 0, .int .i64 0] rfl rfl size24 (by simp) (by intro u hu; simp at hu; rcases hu with rfl | rfl <;> rfl) #[.slice none 0 0, .slice none 0 0, .int .i64 0] rfl ?_; intro w9 k9 c9; have z9 := c9.size; replace f := f.own c9 (fun q hq => by have := List.mem_singleton.1 hq; have := f.size; omega); (try (replace k4 := k4.chg c9 (fun hm => by have := List.mem_singleton.1 hm; omega); (try clear r_k4); have r_k4 := k4.cells)); (try (replace k12 := k12.chg c9 (fun hm => by have := List.mem_singleton.1 hm; omega); (try clear r_k12); have r_k12 := k12.cells)); replace k8 := k9; clear k9; (try clear r_k8); have r_k8 := k8.cells))
    exact bodyPost_ret (v := .tuple #[.agg #[.slice none 0 0, .slice none 0 0, .int .i64 0], .bool false]) (results_cell_row2 rfl _ _ g_k8 _ _ _ _ rfl k8.blk Try.underlying24 rfl size24 _ rfl) rfl ⟨[.slice none 0 0, .slice none 0 0, .int .i64 0], [], by rw [e.out], by rw [e.out]; exact nilBk_own _, by simp, by simp, f⟩
  | true =>
  have hk2 := of_decide_eq_true d2
  obtain ⟨fn, hfn⟩ := coinsV_ok hk2
  cases d3 : decide (1 ≤ fr ∧ fr ≤ 3) with
  | false =>
    have e := Lib.hid (show backR b k fr s = (nilBk, false) by unfold backR; rw [if_neg (by simp only [bkOk, d2, d3]; simp)])
    have HC := Lib.hid hfn
    clear hfn
    have Dd2 := Lib.hid d2
    clear d2
    have Dd3 := Lib.hid d3
    clear d3
    go_enter Try.func39, Try.ntmps39
    go_wp2_with (first
      | ((with_reducible refine gate_dst (N := 4) rfl ?_); refine wpList_box rfl _ _ rfl #[v1, v2, .int .i64 b.locked] rfl ?_; intro g_k4 w9 hg_k4 k4 f9; have zf_k4 := f.size; have hl_k4 := k4.lt; have z9 := f9.size; replace f := f.trans f9; (try (replace k8 := k8.fr f9; (try clear r_k8); have r_k8 := k8.cells)); (try (replace k12 := k12.fr f9; (try clear r_k12); have r_k12 := k12.cells)); (try clear r_k4); have r_k4 := k4.cells)
      | ((with_reducible refine gate_dst (N := 8) rfl ?_); refine wpList_alloc rfl _ rfl _ (zero24 _) #[.slice none 0 0, .slice none 0 0, .int .i64 0] rfl ?_; intro g_k8 w9 hg_k8 k8 f9; have zf_k8 := f.size; have hl_k8 := k8.lt; have z9 := f9.size; replace f := f.trans f9; (try (replace k4 := k4.fr f9; (try clear r_k4); have r_k4 := k4.cells)); (try (replace k12 := k12.fr f9; (try clear r_k12); have r_k12 := k12.cells)); (try clear r_k8); have r_k8 := k8.cells)
      | (go_at_call 58; (with_reducible refine (coinsOf_c _ _).mono ?_); rintro e w9 ⟨rfl, rfl⟩; rw [HC.out])
      | (go_at_call 26; (with_reducible refine (BankOk_c _ b [v1, v2, .int .i64 b.locked] (tBk_mk (h11.fr f) (h12.fr f) h13)).mono ?_); rintro e w9 ⟨rfl, f9⟩; (try rw [Dd2.out]); (try rw [Dd3.out]); have z9 := f9.size; replace f := f.trans f9; (try (replace k4 := k4.fr f9; (try clear r_k4); have r_k4 := k4.cells)); (try (replace k8 := k8.fr f9; (try clear r_k8); have r_k8 := k8.cells)); (try (replace k12 := k12.fr f9; (try clear r_k12); have r_k12 := k12.cells)))
      | (go_at_call 59; (with_reducible refine (userOk_c _ _).mono ?_); rintro e w9 ⟨rfl, rfl⟩; (try rw [Dd2.out]); (try rw [Dd3.out]))
      | ((with_reducible refine gate_store (p := 8) rfl ?_); refine wpList_bstore k8 rfl _ _ _ rfl 0 3 rfl (.agg #[.slice none 0 0, .slice none 0 0, .int .i64 0]) rfl #[.slice none 0 0, .slice none 0 0, .int .i64 0] rfl rfl size24 (by simp) (by intro u hu; simp at hu; rcases hu with rfl | rfl <;> rfl) #[.slice none 0 0, .slice none 0 0, .int .i64 0] rfl ?_; intro w9 k9 c9; have z9 := c9.size; replace f := f.own c9 (fun q hq => by have := List.mem_singleton.1 hq; have := f.size; omega); (try (replace k4 := k4.chg c9 (fun hm => by have := List.mem_singleton.1 hm; omega); (try clear r_k4); have r_k4 := k4.cells)); (try (replace k12 := k12.chg c9 (fun hm => by have := List.mem_singleton.1 hm; omega); (try clear r_k12); have r_k12 := k12.cells)); replace k8 := k9; clear k9; (try clear r_k8); have r_k8 := k8.cells))
    exact bodyPost_ret (v := .tuple #[.agg #[.slice none 0 0, .slice none 0 0, .int .i64 0], .bool false]) (results_cell_row2 rfl _ _ g_k8 _ _ _ _ rfl k8.blk Try.underlying24 rfl size24 _ rfl) rfl ⟨[.slice none 0 0, .slice none 0 0, .int .i64 0], [], by rw [e.out], by rw [e.out]; exact nilBk_own _, by simp, by simp, f⟩
  | true =>
  have hfr := of_decide_eq_true d3
  by_cases hs : s < 0
  · have e := Lib.hid (show backR b k fr s = (nilBk, false) by unfold backR; rw [if_neg (by simp only [bkOk, decide_eq_false (show ¬ (0 ≤ s ∧ s ≤ 30) by omega)]; simp)])
    have HC := Lib.hid hfn
    clear hfn
    have Dd2 := Lib.hid d2
    clear d2
    have Dd3 := Lib.hid d3
    clear d3
    go_enter Try.func39, Try.ntmps39
    go_wp2_with (first
      | ((with_reducible refine gate_dst (N := 4) rfl ?_); refine wpList_box rfl _ _ rfl #[v1, v2, .int .i64 b.locked] rfl ?_; intro g_k4 w9 hg_k4 k4 f9; have zf_k4 := f.size; have hl_k4 := k4.lt; have z9 := f9.size; replace f := f.trans f9; (try (replace k8 := k8.fr f9; (try clear r_k8); have r_k8 := k8.cells)); (try (replace k12 := k12.fr f9; (try clear r_k12); have r_k12 := k12.cells)); (try clear r_k4); have r_k4 := k4.cells)
      | ((with_reducible refine gate_dst (N := 8) rfl ?_); refine wpList_alloc rfl _ rfl _ (zero24 _) #[.slice none 0 0, .slice none 0 0, .int .i64 0] rfl ?_; intro g_k8 w9 hg_k8 k8 f9; have zf_k8 := f.size; have hl_k8 := k8.lt; have z9 := f9.size; replace f := f.trans f9; (try (replace k4 := k4.fr f9; (try clear r_k4); have r_k4 := k4.cells)); (try (replace k12 := k12.fr f9; (try clear r_k12); have r_k12 := k12.cells)); (try clear r_k8); have r_k8 := k8.cells)
      | (go_at_call 58; (with_reducible refine (coinsOf_c _ _).mono ?_); rintro e w9 ⟨rfl, rfl⟩; rw [HC.out])
      | (go_at_call 26; (with_reducible refine (BankOk_c _ b [v1, v2, .int .i64 b.locked] (tBk_mk (h11.fr f) (h12.fr f) h13)).mono ?_); rintro e w9 ⟨rfl, f9⟩; (try rw [Dd2.out]); (try rw [Dd3.out]); have z9 := f9.size; replace f := f.trans f9; (try (replace k4 := k4.fr f9; (try clear r_k4); have r_k4 := k4.cells)); (try (replace k8 := k8.fr f9; (try clear r_k8); have r_k8 := k8.cells)); (try (replace k12 := k12.fr f9; (try clear r_k12); have r_k12 := k12.cells)))
      | (go_at_call 59; (with_reducible refine (userOk_c _ _).mono ?_); rintro e w9 ⟨rfl, rfl⟩; (try rw [Dd2.out]); (try rw [Dd3.out]))
      | ((with_reducible refine gate_store (p := 8) rfl ?_); refine wpList_bstore k8 rfl _ _ _ rfl 0 3 rfl (.agg #[.slice none 0 0, .slice none 0 0, .int .i64 0]) rfl #[.slice none 0 0, .slice none 0 0, .int .i64 0] rfl rfl size24 (by simp) (by intro u hu; simp at hu; rcases hu with rfl | rfl <;> rfl) #[.slice none 0 0, .slice none 0 0, .int .i64 0] rfl ?_; intro w9 k9 c9; have z9 := c9.size; replace f := f.own c9 (fun q hq => by have := List.mem_singleton.1 hq; have := f.size; omega); (try (replace k4 := k4.chg c9 (fun hm => by have := List.mem_singleton.1 hm; omega); (try clear r_k4); have r_k4 := k4.cells)); (try (replace k12 := k12.chg c9 (fun hm => by have := List.mem_singleton.1 hm; omega); (try clear r_k12); have r_k12 := k12.cells)); replace k8 := k9; clear k9; (try clear r_k8); have r_k8 := k8.cells))
    exact bodyPost_ret (v := .tuple #[.agg #[.slice none 0 0, .slice none 0 0, .int .i64 0], .bool false]) (results_cell_row2 rfl _ _ g_k8 _ _ _ _ rfl k8.blk Try.underlying24 rfl size24 _ rfl) rfl ⟨[.slice none 0 0, .slice none 0 0, .int .i64 0], [], by rw [e.out], by rw [e.out]; exact nilBk_own _, by simp, by simp, f⟩
  have hs0 : 0 ≤ s := by omega
  have hsf : decide (s < 0) = false := decide_eq_false hs
  by_cases hs3 : 30 < s
  · have e := Lib.hid (show backR b k fr s = (nilBk, false) by unfold backR; rw [if_neg (by simp only [bkOk, decide_eq_false (show ¬ (0 ≤ s ∧ s ≤ 30) by omega)]; simp)])
    have HC := Lib.hid hfn
    clear hfn
    have Dd2 := Lib.hid d2
    clear d2
    have Dd3 := Lib.hid d3
    clear d3
    go_enter Try.func39, Try.ntmps39
    go_wp2_with (first
      | ((with_reducible refine gate_dst (N := 4) rfl ?_); refine wpList_box rfl _ _ rfl #[v1, v2, .int .i64 b.locked] rfl ?_; intro g_k4 w9 hg_k4 k4 f9; have zf_k4 := f.size; have hl_k4 := k4.lt; have z9 := f9.size; replace f := f.trans f9; (try (replace k8 := k8.fr f9; (try clear r_k8); have r_k8 := k8.cells)); (try (replace k12 := k12.fr f9; (try clear r_k12); have r_k12 := k12.cells)); (try clear r_k4); have r_k4 := k4.cells)
      | ((with_reducible refine gate_dst (N := 8) rfl ?_); refine wpList_alloc rfl _ rfl _ (zero24 _) #[.slice none 0 0, .slice none 0 0, .int .i64 0] rfl ?_; intro g_k8 w9 hg_k8 k8 f9; have zf_k8 := f.size; have hl_k8 := k8.lt; have z9 := f9.size; replace f := f.trans f9; (try (replace k4 := k4.fr f9; (try clear r_k4); have r_k4 := k4.cells)); (try (replace k12 := k12.fr f9; (try clear r_k12); have r_k12 := k12.cells)); (try clear r_k8); have r_k8 := k8.cells)
      | (go_at_call 58; (with_reducible refine (coinsOf_c _ _).mono ?_); rintro e w9 ⟨rfl, rfl⟩; rw [HC.out])
      | (go_at_call 26; (with_reducible refine (BankOk_c _ b [v1, v2, .int .i64 b.locked] (tBk_mk (h11.fr f) (h12.fr f) h13)).mono ?_); rintro e w9 ⟨rfl, f9⟩; (try rw [Dd2.out]); (try rw [Dd3.out]); have z9 := f9.size; replace f := f.trans f9; (try (replace k4 := k4.fr f9; (try clear r_k4); have r_k4 := k4.cells)); (try (replace k8 := k8.fr f9; (try clear r_k8); have r_k8 := k8.cells)); (try (replace k12 := k12.fr f9; (try clear r_k12); have r_k12 := k12.cells)))
      | (go_at_call 59; (with_reducible refine (userOk_c _ _).mono ?_); rintro e w9 ⟨rfl, rfl⟩; (try rw [Dd2.out]); (try rw [Dd3.out]))
      | ((with_reducible refine gate_store (p := 8) rfl ?_); refine wpList_bstore k8 rfl _ _ _ rfl 0 3 rfl (.agg #[.slice none 0 0, .slice none 0 0, .int .i64 0]) rfl #[.slice none 0 0, .slice none 0 0, .int .i64 0] rfl rfl size24 (by simp) (by intro u hu; simp at hu; rcases hu with rfl | rfl <;> rfl) #[.slice none 0 0, .slice none 0 0, .int .i64 0] rfl ?_; intro w9 k9 c9; have z9 := c9.size; replace f := f.own c9 (fun q hq => by have := List.mem_singleton.1 hq; have := f.size; omega); (try (replace k4 := k4.chg c9 (fun hm => by have := List.mem_singleton.1 hm; omega); (try clear r_k4); have r_k4 := k4.cells)); (try (replace k12 := k12.chg c9 (fun hm => by have := List.mem_singleton.1 hm; omega); (try clear r_k12); have r_k12 := k12.cells)); replace k8 := k9; clear k9; (try clear r_k8); have r_k8 := k8.cells))
    exact bodyPost_ret (v := .tuple #[.agg #[.slice none 0 0, .slice none 0 0, .int .i64 0], .bool false]) (results_cell_row2 rfl _ _ g_k8 _ _ _ _ rfl k8.blk Try.underlying24 rfl size24 _ rfl) rfl ⟨[.slice none 0 0, .slice none 0 0, .int .i64 0], [], by rw [e.out], by rw [e.out]; exact nilBk_own _, by simp, by simp, f⟩
  have hs4 : s ≤ 30 := by omega
  have hsg : decide (30 < s) = false := decide_eq_false hs3
  cases d1 : okBk b with
  | false =>
    have e := Lib.hid (show backR b k fr s = (nilBk, false) by unfold backR; rw [if_neg (by simp only [bkOk, d1]; simp)])
    have HC := Lib.hid hfn
    clear hfn
    have Dd2 := Lib.hid d2
    clear d2
    have Dd3 := Lib.hid d3
    clear d3
    have Dd1 := Lib.hid d1
    clear d1
    go_enter Try.func39, Try.ntmps39
    go_wp2_with (first
      | ((with_reducible refine gate_dst (N := 4) rfl ?_); refine wpList_box rfl _ _ rfl #[v1, v2, .int .i64 b.locked] rfl ?_; intro g_k4 w9 hg_k4 k4 f9; have zf_k4 := f.size; have hl_k4 := k4.lt; have z9 := f9.size; replace f := f.trans f9; (try (replace k8 := k8.fr f9; (try clear r_k8); have r_k8 := k8.cells)); (try (replace k12 := k12.fr f9; (try clear r_k12); have r_k12 := k12.cells)); (try clear r_k4); have r_k4 := k4.cells)
      | ((with_reducible refine gate_dst (N := 8) rfl ?_); refine wpList_alloc rfl _ rfl _ (zero24 _) #[.slice none 0 0, .slice none 0 0, .int .i64 0] rfl ?_; intro g_k8 w9 hg_k8 k8 f9; have zf_k8 := f.size; have hl_k8 := k8.lt; have z9 := f9.size; replace f := f.trans f9; (try (replace k4 := k4.fr f9; (try clear r_k4); have r_k4 := k4.cells)); (try (replace k12 := k12.fr f9; (try clear r_k12); have r_k12 := k12.cells)); (try clear r_k8); have r_k8 := k8.cells)
      | (go_at_call 58; (with_reducible refine (coinsOf_c _ _).mono ?_); rintro e w9 ⟨rfl, rfl⟩; rw [HC.out])
      | (go_at_call 26; (with_reducible refine (BankOk_c _ b [v1, v2, .int .i64 b.locked] (tBk_mk (h11.fr f) (h12.fr f) h13)).mono ?_); rintro e w9 ⟨rfl, f9⟩; (try rw [Dd2.out]); (try rw [Dd3.out]); (try rw [Dd1.out]); have z9 := f9.size; replace f := f.trans f9; (try (replace k4 := k4.fr f9; (try clear r_k4); have r_k4 := k4.cells)); (try (replace k8 := k8.fr f9; (try clear r_k8); have r_k8 := k8.cells)); (try (replace k12 := k12.fr f9; (try clear r_k12); have r_k12 := k12.cells)))
      | (go_at_call 59; (with_reducible refine (userOk_c _ _).mono ?_); rintro e w9 ⟨rfl, rfl⟩; (try rw [Dd2.out]); (try rw [Dd3.out]); (try rw [Dd1.out]))
      | ((with_reducible refine gate_store (p := 8) rfl ?_); refine wpList_bstore k8 rfl _ _ _ rfl 0 3 rfl (.agg #[.slice none 0 0, .slice none 0 0, .int .i64 0]) rfl #[.slice none 0 0, .slice none 0 0, .int .i64 0] rfl rfl size24 (by simp) (by intro u hu; simp at hu; rcases hu with rfl | rfl <;> rfl) #[.slice none 0 0, .slice none 0 0, .int .i64 0] rfl ?_; intro w9 k9 c9; have z9 := c9.size; replace f := f.own c9 (fun q hq => by have := List.mem_singleton.1 hq; have := f.size; omega); (try (replace k4 := k4.chg c9 (fun hm => by have := List.mem_singleton.1 hm; omega); (try clear r_k4); have r_k4 := k4.cells)); (try (replace k12 := k12.chg c9 (fun hm => by have := List.mem_singleton.1 hm; omega); (try clear r_k12); have r_k12 := k12.cells)); replace k8 := k9; clear k9; (try clear r_k8); have r_k8 := k8.cells))
    exact bodyPost_ret (v := .tuple #[.agg #[.slice none 0 0, .slice none 0 0, .int .i64 0], .bool false]) (results_cell_row2 rfl _ _ g_k8 _ _ _ _ rfl k8.blk Try.underlying24 rfl size24 _ rfl) rfl ⟨[.slice none 0 0, .slice none 0 0, .int .i64 0], [], by rw [e.out], by rw [e.out]; exact nilBk_own _, by simp, by simp, f⟩
  | true =>
  obtain ⟨q1, q2, q3, q4, q5⟩ := okBk_split d1
  have ln1 := okL_len q1
  have ln2 := okL_len q2
  have sb1 := sum_bd q1
  have sb2 := sum_bd q2
  have LN := Lib.hid (And.intro ln1 ln2)
  clear hfn
  rcases (by omega : k = 1 ∨ k = 2) with rfl | rfl
  · skip
    have HC := Lib.hid (show coinsV 1 = .tuple #[.func (.func 64) #[] #[], .bool true] from rfl)
    have bx := okL_get q1 (fr.toNat - 1) (by omega)
    rw [at0_get (by omega)] at bx
    obtain ⟨x, hx⟩ : ∃ x, at0 b.own (fr.toNat - 1) = x := ⟨_, rfl⟩
    rw [hx] at bx
    have LI := Lib.hid (show fr.toNat - 1 < b.own.length by omega)
    by_cases hlt : b.locked < s
    · have e := Lib.hid (show backR b 1 fr s = (nilBk, false) by rw [backR, if_neg (by rw [bkOk_eq d1 hk2 hfr ⟨hs0, hs4⟩]; simp; omega)])
      clear hx ln1 ln2
      have Dd2 := Lib.hid d2
      clear d2
      have Dd3 := Lib.hid d3
      clear d3
      have Dd1 := Lib.hid d1
      clear d1
      go_enter Try.func39, Try.ntmps39
      go_wp2_with (first
        | ((with_reducible refine gate_dst (N := 4) rfl ?_); refine wpList_box rfl _ _ rfl #[v1, v2, .int .i64 b.locked] rfl ?_; intro g_k4 w9 hg_k4 k4 f9; have zf_k4 := f.size; have hl_k4 := k4.lt; have z9 := f9.size; replace f := f.trans f9; (try replace m1 := m1.fr f9); (try replace m2 := m2.fr f9); (try (replace k8 := k8.fr f9; (try clear r_k8); have r_k8 := k8.cells)); (try (replace k12 := k12.fr f9; (try clear r_k12); have r_k12 := k12.cells)); (try clear r_k4); have r_k4 := k4.cells)
        | ((with_reducible refine gate_dst (N := 8) rfl ?_); refine wpList_alloc rfl _ rfl _ (zero24 _) #[.slice none 0 0, .slice none 0 0, .int .i64 0] rfl ?_; intro g_k8 w9 hg_k8 k8 f9; have zf_k8 := f.size; have hl_k8 := k8.lt; have z9 := f9.size; replace f := f.trans f9; (try replace m1 := m1.fr f9); (try replace m2 := m2.fr f9); (try (replace k4 := k4.fr f9; (try clear r_k4); have r_k4 := k4.cells)); (try (replace k12 := k12.fr f9; (try clear r_k12); have r_k12 := k12.cells)); (try clear r_k8); have r_k8 := k8.cells)
        | (go_at_call 58; (with_reducible refine (coinsOf_c _ _).mono ?_); rintro e w9 ⟨rfl, rfl⟩; rw [HC.out])
        | (go_at_call 26; (with_reducible refine (BankOk_c _ b [v1, v2, .int .i64 b.locked] (tBk_mk (h11.fr f) (h12.fr f) h13)).mono ?_); rintro e w9 ⟨rfl, f9⟩; (try rw [Dd2.out]); (try rw [Dd3.out]); (try rw [Dd1.out]); have z9 := f9.size; replace f := f.trans f9; (try replace m1 := m1.fr f9); (try replace m2 := m2.fr f9); (try (replace k4 := k4.fr f9; (try clear r_k4); have r_k4 := k4.cells)); (try (replace k8 := k8.fr f9; (try clear r_k8); have r_k8 := k8.cells)); (try (replace k12 := k12.fr f9; (try clear r_k12); have r_k12 := k12.cells)))
        | (go_at_call 59; (with_reducible refine (userOk_c _ _).mono ?_); rintro e w9 ⟨rfl, rfl⟩; (try rw [Dd2.out]); (try rw [Dd3.out]); (try rw [Dd1.out]))
        | (go_at_call 60; (with_reducible refine (ledgerOf_c _ b [v1, v2, .int .i64 b.locked] (tBk_mk (h11.fr f) (h12.fr f) h13) LN.out).mono ?_); rintro e w9 ⟨g1, g2, rfl, m1, m2, gne, lo1, lo2, f9⟩; have tm1 := m1.lt; have tm2 := m2.lt; have z9 := f9.size; replace f := f.trans f9; (try replace m1 := m1.fr f9); (try replace m2 := m2.fr f9); (try (replace k4 := k4.fr f9; (try clear r_k4); have r_k4 := k4.cells)); (try (replace k8 := k8.fr f9; (try clear r_k8); have r_k8 := k8.cells)); (try (replace k12 := k12.fr f9; (try clear r_k12); have r_k12 := k12.cells)))
        | ((with_reducible refine gate_dst (N := 12) rfl ?_); refine wpList_alloc rfl _ rfl _ (lzero70 _) #[.map none, .map none, .int .i64 0] rfl ?_; intro g_k12 w9 hg_k12 k12 f9; have zf_k12 := f.size; have hl_k12 := k12.lt; have z9 := f9.size; replace f := f.trans f9; (try replace m1 := m1.fr f9); (try replace m2 := m2.fr f9); (try (replace k4 := k4.fr f9; (try clear r_k4); have r_k4 := k4.cells)); (try (replace k8 := k8.fr f9; (try clear r_k8); have r_k8 := k8.cells)); (try clear r_k12); have r_k12 := k12.cells)
        | (((with_reducible refine gate_store (p := 12) rfl ?_); refine wpList_bstore k12 rfl _ _ _ rfl 0 3 rfl (.agg #[.map (some g1), .map (some g2), .int .i64 b.locked]) rfl #[.map (some g1), .map (some g2), .int .i64 b.locked] rfl rfl size70 (by simp) (by intro u hu; simp at hu; rcases hu with rfl | rfl | rfl <;> rfl) #[.map (some g1), .map (some g2), .int .i64 b.locked] rfl ?_; intro w9 k9 c9; have z9 := c9.size; replace f := f.own c9 (fun q hq => by have := List.mem_singleton.1 hq; have := f.size; omega); (try (replace k4 := k4.chg c9 (fun hm => by have := List.mem_singleton.1 hm; omega); (try clear r_k4); have r_k4 := k4.cells)); (try (replace k8 := k8.chg c9 (fun hm => by have := List.mem_singleton.1 hm; omega); (try clear r_k8); have r_k8 := k8.cells)); replace k12 := k9; clear k9; (try clear r_k12); have r_k12 := k12.cells); (try replace m1 := m1.chg c9 (fun hm => by have := List.mem_singleton.1 hm; omega)); (try replace m2 := m2.chg c9 (fun hm => by have := List.mem_singleton.1 hm; omega)))
        | ((with_reducible refine gate_store (p := 8) rfl ?_); refine wpList_bstore k8 rfl _ _ _ rfl 0 3 rfl (.agg #[.slice none 0 0, .slice none 0 0, .int .i64 0]) rfl #[.slice none 0 0, .slice none 0 0, .int .i64 0] rfl rfl size24 (by simp) (by intro u hu; simp at hu; rcases hu with rfl | rfl <;> rfl) #[.slice none 0 0, .slice none 0 0, .int .i64 0] rfl ?_; intro w9 k9 c9; have z9 := c9.size; replace f := f.own c9 (fun q hq => by have := List.mem_singleton.1 hq; have := f.size; omega); (try (replace k4 := k4.chg c9 (fun hm => by have := List.mem_singleton.1 hm; omega); (try clear r_k4); have r_k4 := k4.cells)); (try (replace k12 := k12.chg c9 (fun hm => by have := List.mem_singleton.1 hm; omega); (try clear r_k12); have r_k12 := k12.cells)); replace k8 := k9; clear k9; (try clear r_k8); have r_k8 := k8.cells))
      exact bodyPost_ret (v := .tuple #[.agg #[.slice none 0 0, .slice none 0 0, .int .i64 0], .bool false]) (results_cell_row2 rfl _ _ g_k8 _ _ _ _ rfl k8.blk Try.underlying24 rfl size24 _ rfl) rfl ⟨[.slice none 0 0, .slice none 0 0, .int .i64 0], [], by rw [e.out], by rw [e.out]; exact nilBk_own _, by simp, by simp, f⟩
    have ltf : decide (b.locked < s) = false := decide_eq_false hlt
    obtain ⟨ys, hys⟩ : ∃ ys, addAt b.own (fr.toNat - 1) s = ys := ⟨_, rfl⟩
    have hyl : ys.length = 3 := by rw [← hys, addAt_len]; omega
    have hy1 : b.own.set (fr.toNat - 1) (x + s) = ys := by rw [← hys, addAt, hx]
    have e := Lib.hid (show backR b 1 fr s = ((⟨ys, b.notes, b.locked - s⟩ : Bk), true) by rw [(show backR b 1 fr s = (backBk b 1 fr s, true) by rw [backR, if_pos (by rw [bkOk_eq d1 hk2 hfr ⟨hs0, hs4⟩]; simp; omega)]), show backBk b 1 fr s = (⟨ys, b.notes, b.locked - s⟩ : Bk) by rw [← hys]; rfl])
    have hI : I64 (b.locked - s) := by unfold I64; omega
    have HX := Lib.hid hx
    have HY := Lib.hid hy1
    have LZ := Lib.hid (show ys.length = 3 ∧ b.notes.length = 3 by exact ⟨by omega, by omega⟩)
    clear ln1 ln2 hyl hys hy1 hx
    have Dd2 := Lib.hid d2
    clear d2
    have Dd3 := Lib.hid d3
    clear d3
    have Dd1 := Lib.hid d1
    clear d1
    go_enter Try.func39, Try.ntmps39
    go_wp2_with (first
      | ((with_reducible refine gate_dst (N := 4) rfl ?_); refine wpList_box rfl _ _ rfl #[v1, v2, .int .i64 b.locked] rfl ?_; intro g_k4 w9 hg_k4 k4 f9; have zf_k4 := f.size; have hl_k4 := k4.lt; have z9 := f9.size; replace f := f.trans f9; (try replace m1 := m1.fr f9); (try replace m2 := m2.fr f9); (try replace ho1 := ho1.fr f9); (try replace ho2 := ho2.fr f9); (try (replace k8 := k8.fr f9; (try clear r_k8); have r_k8 := k8.cells)); (try (replace k12 := k12.fr f9; (try clear r_k12); have r_k12 := k12.cells)); (try clear r_k4); have r_k4 := k4.cells)
      | ((with_reducible refine gate_dst (N := 8) rfl ?_); refine wpList_alloc rfl _ rfl _ (zero24 _) #[.slice none 0 0, .slice none 0 0, .int .i64 0] rfl ?_; intro g_k8 w9 hg_k8 k8 f9; have zf_k8 := f.size; have hl_k8 := k8.lt; have z9 := f9.size; replace f := f.trans f9; (try replace m1 := m1.fr f9); (try replace m2 := m2.fr f9); (try replace ho1 := ho1.fr f9); (try replace ho2 := ho2.fr f9); (try (replace k4 := k4.fr f9; (try clear r_k4); have r_k4 := k4.cells)); (try (replace k12 := k12.fr f9; (try clear r_k12); have r_k12 := k12.cells)); (try clear r_k8); have r_k8 := k8.cells)
      | (go_at_call 58; (with_reducible refine (coinsOf_c _ _).mono ?_); rintro e w9 ⟨rfl, rfl⟩; rw [HC.out])
      | (go_at_call 26; (with_reducible refine (BankOk_c _ b [v1, v2, .int .i64 b.locked] (tBk_mk (h11.fr f) (h12.fr f) h13)).mono ?_); rintro e w9 ⟨rfl, f9⟩; (try rw [Dd2.out]); (try rw [Dd3.out]); (try rw [Dd1.out]); have z9 := f9.size; replace f := f.trans f9; (try replace m1 := m1.fr f9); (try replace m2 := m2.fr f9); (try replace ho1 := ho1.fr f9); (try replace ho2 := ho2.fr f9); (try (replace k4 := k4.fr f9; (try clear r_k4); have r_k4 := k4.cells)); (try (replace k8 := k8.fr f9; (try clear r_k8); have r_k8 := k8.cells)); (try (replace k12 := k12.fr f9; (try clear r_k12); have r_k12 := k12.cells)))
      | (go_at_call 59; (with_reducible refine (userOk_c _ _).mono ?_); rintro e w9 ⟨rfl, rfl⟩; (try rw [Dd2.out]); (try rw [Dd3.out]); (try rw [Dd1.out]))
      | (go_at_call 60; (with_reducible refine (ledgerOf_c _ b [v1, v2, .int .i64 b.locked] (tBk_mk (h11.fr f) (h12.fr f) h13) LN.out).mono ?_); rintro e w9 ⟨g1, g2, rfl, m1, m2, gne, lo1, lo2, f9⟩; have tm1 := m1.lt; have tm2 := m2.lt; have z9 := f9.size; replace f := f.trans f9; (try replace m1 := m1.fr f9); (try replace m2 := m2.fr f9); (try replace ho1 := ho1.fr f9); (try replace ho2 := ho2.fr f9); (try (replace k4 := k4.fr f9; (try clear r_k4); have r_k4 := k4.cells)); (try (replace k8 := k8.fr f9; (try clear r_k8); have r_k8 := k8.cells)); (try (replace k12 := k12.fr f9; (try clear r_k12); have r_k12 := k12.cells)))
      | ((with_reducible refine gate_dst (N := 12) rfl ?_); refine wpList_alloc rfl _ rfl _ (lzero70 _) #[.map none, .map none, .int .i64 0] rfl ?_; intro g_k12 w9 hg_k12 k12 f9; have zf_k12 := f.size; have hl_k12 := k12.lt; have z9 := f9.size; replace f := f.trans f9; (try replace m1 := m1.fr f9); (try replace m2 := m2.fr f9); (try replace ho1 := ho1.fr f9); (try replace ho2 := ho2.fr f9); (try (replace k4 := k4.fr f9; (try clear r_k4); have r_k4 := k4.cells)); (try (replace k8 := k8.fr f9; (try clear r_k8); have r_k8 := k8.cells)); (try clear r_k12); have r_k12 := k12.cells)
      | (((with_reducible refine gate_store (p := 12) rfl ?_); refine wpList_bstore k12 rfl _ _ _ rfl 0 3 rfl (.agg #[.map (some g1), .map (some g2), .int .i64 b.locked]) rfl #[.map (some g1), .map (some g2), .int .i64 b.locked] rfl rfl size70 (by simp) (by intro u hu; simp at hu; rcases hu with rfl | rfl | rfl <;> rfl) #[.map (some g1), .map (some g2), .int .i64 b.locked] rfl ?_; intro w9 k9 c9; have z9 := c9.size; replace f := f.own c9 (fun q hq => by have := List.mem_singleton.1 hq; have := f.size; omega); (try replace ho1 := ho1.chg c9 (fun q hq hm => by have := hb1 q hq; have := hu1 q hq; have := List.mem_singleton.1 hm; omega)); (try replace ho2 := ho2.chg c9 (fun q hq hm => by have := hb2 q hq; have := hu2 q hq; have := List.mem_singleton.1 hm; omega)); (try (replace k4 := k4.chg c9 (fun hm => by have := List.mem_singleton.1 hm; omega); (try clear r_k4); have r_k4 := k4.cells)); (try (replace k8 := k8.chg c9 (fun hm => by have := List.mem_singleton.1 hm; omega); (try clear r_k8); have r_k8 := k8.cells)); replace k12 := k9; clear k9; (try clear r_k12); have r_k12 := k12.cells); (try replace m1 := m1.chg c9 (fun hm => by have := List.mem_singleton.1 hm; omega)); (try replace m2 := m2.chg c9 (fun hm => by have := List.mem_singleton.1 hm; omega)))
      | ((with_reducible refine gate_dst (N := 67) rfl ?_); refine wpList_bload k12 rfl _ _ rfl 0 3 rfl _ Try.underlying70 rfl size70 (by simp) #[.map (some g1), .map (some g2), .int .i64 (b.locked - s)] rfl ?_)
      | (go_at_call 64; (with_reducible refine (ownCoins_c _ _ _ _).mono ?_); rintro e w9 ⟨rfl, f9⟩; have z9 := f9.size; replace f := f.trans f9; (try replace m1 := m1.fr f9); (try replace m2 := m2.fr f9); (try replace ho1 := ho1.fr f9); (try replace ho2 := ho2.fr f9); (try (replace k4 := k4.fr f9; (try clear r_k4); have r_k4 := k4.cells)); (try (replace k8 := k8.fr f9; (try clear r_k8); have r_k8 := k8.cells)); (try (replace k12 := k12.fr f9; (try clear r_k12); have r_k12 := k12.cells)))
      | ((with_reducible refine gate_dst (N := 70) rfl ?_); refine wpList_lookv rfl _ _ rfl Try.underlying68 Try.underlying3 rfl m1 (fr.toNat - 1) LI.out x HX.out _ rfl (by omega) ?_)
      | (((with_reducible refine gate_store (p := 54) rfl ?_); refine wpList_bstore1 k12 rfl _ _ _ rfl 2 rfl (.int .i64 (b.locked - s)) rfl (rfl) size3 (by simp) #[.map (some g1), .map (some g2), .int .i64 (b.locked - s)] rfl ?_; intro w9 k9 c9; have z9 := c9.size; replace f := f.own c9 (fun q hq => by have := List.mem_singleton.1 hq; have := f.size; omega); (try replace ho1 := ho1.chg c9 (fun q hq hm => by have := hb1 q hq; have := hu1 q hq; have := List.mem_singleton.1 hm; omega)); (try replace ho2 := ho2.chg c9 (fun q hq hm => by have := hb2 q hq; have := hu2 q hq; have := List.mem_singleton.1 hm; omega)); (try (replace k4 := k4.chg c9 (fun hm => by have := List.mem_singleton.1 hm; omega); (try clear r_k4); have r_k4 := k4.cells)); (try (replace k8 := k8.chg c9 (fun hm => by have := List.mem_singleton.1 hm; omega); (try clear r_k8); have r_k8 := k8.cells)); replace k12 := k9; clear k9; (try clear r_k12); have r_k12 := k12.cells); (try replace m1 := m1.chg c9 (fun hm => by have := List.mem_singleton.1 hm; omega)); (try replace m2 := m2.chg c9 (fun hm => by have := List.mem_singleton.1 hm; omega)))
      | ((with_reducible refine gate_map rfl ?_); refine wpList_mapset rfl _ _ _ rfl Try.underlying68 Try.underlying3 rfl m1 (fr.toNat - 1) LI.out _ (x + s) rfl rfl (by omega) ?_; intro w9 h9 c9; rw [HY.out] at h9; have z9 := c9.size; replace f := f.own c9 (fun q hq => by have := List.mem_singleton.1 hq; omega); replace m1 := h9; clear h9; replace m2 := m2.chg c9 (fun hm => by have := List.mem_singleton.1 hm; omega); replace k4 := k4.chg c9 (fun hm => by have := List.mem_singleton.1 hm; omega); replace k8 := k8.chg c9 (fun hm => by have := List.mem_singleton.1 hm; omega); replace k12 := k12.chg c9 (fun hm => by have := List.mem_singleton.1 hm; omega); (try clear r_k4); (try clear r_k8); (try clear r_k12); have r_k12 := k12.cells)
      | ((with_reducible refine gate_dst (N := 73) rfl ?_); refine wpList_bload k12 rfl _ _ rfl 0 3 rfl _ Try.underlying70 rfl size70 (by simp) #[.map (some g1), .map (some g2), .int .i64 (b.locked - s)] rfl ?_)
      | (go_at_call 61; (with_reducible refine (ledgerBank_c _ g1 g2 ys b.notes (b.locked - s) m1 m2 LZ.out hI).mono ?_); rintro e w9 ⟨_, F, rfl, ⟨o1, o2, F1, F2, rfl, rfl, ho1, ho2, _⟩, hn, hb0, f9⟩; have hb1 := fun g hg => hb0 g (List.mem_append_left _ hg); have hb2 := fun g hg => hb0 g (List.mem_append_right _ hg); have hu1 := ho1.lt; have hu2 := ho2.lt; have z9 := f9.size; replace f := f.trans f9; (try replace m1 := m1.fr f9); (try replace m2 := m2.fr f9); (try replace ho1 := ho1.fr f9); (try replace ho2 := ho2.fr f9); (try (replace k4 := k4.fr f9; (try clear r_k4); have r_k4 := k4.cells)); (try (replace k8 := k8.fr f9; (try clear r_k8); have r_k8 := k8.cells)); (try (replace k12 := k12.fr f9; (try clear r_k12); have r_k12 := k12.cells)))
      | ((with_reducible refine gate_store (p := 8) rfl ?_); refine wpList_bstore k8 rfl _ _ _ rfl 0 3 rfl (.agg #[o1, o2, .int .i64 (b.locked - s)]) rfl #[o1, o2, .int .i64 (b.locked - s)] rfl rfl size24 (by simp) (by intro u hu; simp at hu; rcases hu with rfl | rfl | rfl; exact ho1.one; exact ho2.one; rfl) #[o1, o2, .int .i64 (b.locked - s)] rfl ?_; intro w9 k9 c9; have z9 := c9.size; replace f := f.own c9 (fun q hq => by have := List.mem_singleton.1 hq; have := f.size; omega); (try replace ho1 := ho1.chg c9 (fun q hq hm => by have := hb1 q hq; have := hu1 q hq; have := List.mem_singleton.1 hm; omega)); (try replace ho2 := ho2.chg c9 (fun q hq hm => by have := hb2 q hq; have := hu2 q hq; have := List.mem_singleton.1 hm; omega)); (try (replace k4 := k4.chg c9 (fun hm => by have := List.mem_singleton.1 hm; omega); (try clear r_k4); have r_k4 := k4.cells)); (try (replace k12 := k12.chg c9 (fun hm => by have := List.mem_singleton.1 hm; omega); (try clear r_k12); have r_k12 := k12.cells)); replace k8 := k9; clear k9; (try clear r_k8); have r_k8 := k8.cells))
    exact bodyPost_ret (v := .tuple #[.agg #[o1, o2, .int .i64 (b.locked - s)], .bool true]) (results_cell_row2 rfl _ _ g_k8 _ _ _ _ rfl k8.blk Try.underlying24 rfl size24 _ rfl) rfl ⟨[o1, o2, .int .i64 (b.locked - s)], F1 ++ F2, by rw [e.out], by rw [e.out]; exact ⟨_, _, F1, F2, rfl, rfl, ho1, ho2, hI⟩, hn, lo_append (lo_mono hb1 (by omega)) (lo_mono hb2 (by omega)) (Nat.le_refl _), f⟩
  · skip
    have HC := Lib.hid (show coinsV 2 = .tuple #[.func (.func 65) #[] #[], .bool true] from rfl)
    have bx := okL_get q2 (fr.toNat - 1) (by omega)
    rw [at0_get (by omega)] at bx
    obtain ⟨x, hx⟩ : ∃ x, at0 b.notes (fr.toNat - 1) = x := ⟨_, rfl⟩
    rw [hx] at bx
    have LI := Lib.hid (show fr.toNat - 1 < b.notes.length by omega)
    have T2 := Lib.hid (totL_yes q2)
    by_cases hlt : 30 < b.notes.sum + s
    · have e := Lib.hid (show backR b 2 fr s = (nilBk, false) by rw [backR, if_neg (by rw [bkOk_eq d1 hk2 hfr ⟨hs0, hs4⟩]; simp; omega)])
      clear hx ln1 ln2
      have Dd2 := Lib.hid d2
      clear d2
      have Dd3 := Lib.hid d3
      clear d3
      have Dd1 := Lib.hid d1
      clear d1
      go_enter Try.func39, Try.ntmps39
      go_wp2_with (first
        | ((with_reducible refine gate_dst (N := 4) rfl ?_); refine wpList_box rfl _ _ rfl #[v1, v2, .int .i64 b.locked] rfl ?_; intro g_k4 w9 hg_k4 k4 f9; have zf_k4 := f.size; have hl_k4 := k4.lt; have z9 := f9.size; replace f := f.trans f9; (try replace m1 := m1.fr f9); (try replace m2 := m2.fr f9); (try (replace k8 := k8.fr f9; (try clear r_k8); have r_k8 := k8.cells)); (try (replace k12 := k12.fr f9; (try clear r_k12); have r_k12 := k12.cells)); (try clear r_k4); have r_k4 := k4.cells)
        | ((with_reducible refine gate_dst (N := 8) rfl ?_); refine wpList_alloc rfl _ rfl _ (zero24 _) #[.slice none 0 0, .slice none 0 0, .int .i64 0] rfl ?_; intro g_k8 w9 hg_k8 k8 f9; have zf_k8 := f.size; have hl_k8 := k8.lt; have z9 := f9.size; replace f := f.trans f9; (try replace m1 := m1.fr f9); (try replace m2 := m2.fr f9); (try (replace k4 := k4.fr f9; (try clear r_k4); have r_k4 := k4.cells)); (try (replace k12 := k12.fr f9; (try clear r_k12); have r_k12 := k12.cells)); (try clear r_k8); have r_k8 := k8.cells)
        | (go_at_call 58; (with_reducible refine (coinsOf_c _ _).mono ?_); rintro e w9 ⟨rfl, rfl⟩; rw [HC.out])
        | (go_at_call 26; (with_reducible refine (BankOk_c _ b [v1, v2, .int .i64 b.locked] (tBk_mk (h11.fr f) (h12.fr f) h13)).mono ?_); rintro e w9 ⟨rfl, f9⟩; (try rw [Dd2.out]); (try rw [Dd3.out]); (try rw [Dd1.out]); have z9 := f9.size; replace f := f.trans f9; (try replace m1 := m1.fr f9); (try replace m2 := m2.fr f9); (try (replace k4 := k4.fr f9; (try clear r_k4); have r_k4 := k4.cells)); (try (replace k8 := k8.fr f9; (try clear r_k8); have r_k8 := k8.cells)); (try (replace k12 := k12.fr f9; (try clear r_k12); have r_k12 := k12.cells)))
        | (go_at_call 59; (with_reducible refine (userOk_c _ _).mono ?_); rintro e w9 ⟨rfl, rfl⟩; (try rw [Dd2.out]); (try rw [Dd3.out]); (try rw [Dd1.out]))
        | (go_at_call 60; (with_reducible refine (ledgerOf_c _ b [v1, v2, .int .i64 b.locked] (tBk_mk (h11.fr f) (h12.fr f) h13) LN.out).mono ?_); rintro e w9 ⟨g1, g2, rfl, m1, m2, gne, lo1, lo2, f9⟩; have tm1 := m1.lt; have tm2 := m2.lt; have z9 := f9.size; replace f := f.trans f9; (try replace m1 := m1.fr f9); (try replace m2 := m2.fr f9); (try (replace k4 := k4.fr f9; (try clear r_k4); have r_k4 := k4.cells)); (try (replace k8 := k8.fr f9; (try clear r_k8); have r_k8 := k8.cells)); (try (replace k12 := k12.fr f9; (try clear r_k12); have r_k12 := k12.cells)))
        | ((with_reducible refine gate_dst (N := 12) rfl ?_); refine wpList_alloc rfl _ rfl _ (lzero70 _) #[.map none, .map none, .int .i64 0] rfl ?_; intro g_k12 w9 hg_k12 k12 f9; have zf_k12 := f.size; have hl_k12 := k12.lt; have z9 := f9.size; replace f := f.trans f9; (try replace m1 := m1.fr f9); (try replace m2 := m2.fr f9); (try (replace k4 := k4.fr f9; (try clear r_k4); have r_k4 := k4.cells)); (try (replace k8 := k8.fr f9; (try clear r_k8); have r_k8 := k8.cells)); (try clear r_k12); have r_k12 := k12.cells)
        | (((with_reducible refine gate_store (p := 12) rfl ?_); refine wpList_bstore k12 rfl _ _ _ rfl 0 3 rfl (.agg #[.map (some g1), .map (some g2), .int .i64 b.locked]) rfl #[.map (some g1), .map (some g2), .int .i64 b.locked] rfl rfl size70 (by simp) (by intro u hu; simp at hu; rcases hu with rfl | rfl | rfl <;> rfl) #[.map (some g1), .map (some g2), .int .i64 b.locked] rfl ?_; intro w9 k9 c9; have z9 := c9.size; replace f := f.own c9 (fun q hq => by have := List.mem_singleton.1 hq; have := f.size; omega); (try (replace k4 := k4.chg c9 (fun hm => by have := List.mem_singleton.1 hm; omega); (try clear r_k4); have r_k4 := k4.cells)); (try (replace k8 := k8.chg c9 (fun hm => by have := List.mem_singleton.1 hm; omega); (try clear r_k8); have r_k8 := k8.cells)); replace k12 := k9; clear k9; (try clear r_k12); have r_k12 := k12.cells); (try replace m1 := m1.chg c9 (fun hm => by have := List.mem_singleton.1 hm; omega)); (try replace m2 := m2.chg c9 (fun hm => by have := List.mem_singleton.1 hm; omega)))
        | (go_at_call 50; (with_reducible refine (amountTotal_c _ v2 b.notes (h12.fr f)).mono ?_); rintro e w9 ⟨rfl, rfl⟩; rw [T2.out])
        | ((with_reducible refine gate_store (p := 8) rfl ?_); refine wpList_bstore k8 rfl _ _ _ rfl 0 3 rfl (.agg #[.slice none 0 0, .slice none 0 0, .int .i64 0]) rfl #[.slice none 0 0, .slice none 0 0, .int .i64 0] rfl rfl size24 (by simp) (by intro u hu; simp at hu; rcases hu with rfl | rfl <;> rfl) #[.slice none 0 0, .slice none 0 0, .int .i64 0] rfl ?_; intro w9 k9 c9; have z9 := c9.size; replace f := f.own c9 (fun q hq => by have := List.mem_singleton.1 hq; have := f.size; omega); (try (replace k4 := k4.chg c9 (fun hm => by have := List.mem_singleton.1 hm; omega); (try clear r_k4); have r_k4 := k4.cells)); (try (replace k12 := k12.chg c9 (fun hm => by have := List.mem_singleton.1 hm; omega); (try clear r_k12); have r_k12 := k12.cells)); replace k8 := k9; clear k9; (try clear r_k8); have r_k8 := k8.cells))
      exact bodyPost_ret (v := .tuple #[.agg #[.slice none 0 0, .slice none 0 0, .int .i64 0], .bool false]) (results_cell_row2 rfl _ _ g_k8 _ _ _ _ rfl k8.blk Try.underlying24 rfl size24 _ rfl) rfl ⟨[.slice none 0 0, .slice none 0 0, .int .i64 0], [], by rw [e.out], by rw [e.out]; exact nilBk_own _, by simp, by simp, f⟩
    have ltf : decide (30 < b.notes.sum + s) = false := decide_eq_false hlt
    obtain ⟨ys, hys⟩ : ∃ ys, addAt b.notes (fr.toNat - 1) s = ys := ⟨_, rfl⟩
    have hyl : ys.length = 3 := by rw [← hys, addAt_len]; omega
    have hy1 : b.notes.set (fr.toNat - 1) (x + s) = ys := by rw [← hys, addAt, hx]
    have e := Lib.hid (show backR b 2 fr s = ((⟨b.own, ys, b.locked⟩ : Bk), true) by rw [(show backR b 2 fr s = (backBk b 2 fr s, true) by rw [backR, if_pos (by rw [bkOk_eq d1 hk2 hfr ⟨hs0, hs4⟩]; simp; omega)]), show backBk b 2 fr s = (⟨b.own, ys, b.locked⟩ : Bk) by rw [← hys]; rfl])
    have hI : I64 (b.locked) := by unfold I64; exact h13
    have HX := Lib.hid hx
    have HY := Lib.hid hy1
    have LZ := Lib.hid (show b.own.length = 3 ∧ ys.length = 3 by exact ⟨by omega, by omega⟩)
    clear ln1 ln2 hyl hys hy1 hx
    have Dd2 := Lib.hid d2
    clear d2
    have Dd3 := Lib.hid d3
    clear d3
    have Dd1 := Lib.hid d1
    clear d1
    go_enter Try.func39, Try.ntmps39
    go_wp2_with (first
      | ((with_reducible refine gate_dst (N := 4) rfl ?_); refine wpList_box rfl _ _ rfl #[v1, v2, .int .i64 b.locked] rfl ?_; intro g_k4 w9 hg_k4 k4 f9; have zf_k4 := f.size; have hl_k4 := k4.lt; have z9 := f9.size; replace f := f.trans f9; (try replace m1 := m1.fr f9); (try replace m2 := m2.fr f9); (try replace ho1 := ho1.fr f9); (try replace ho2 := ho2.fr f9); (try (replace k8 := k8.fr f9; (try clear r_k8); have r_k8 := k8.cells)); (try (replace k12 := k12.fr f9; (try clear r_k12); have r_k12 := k12.cells)); (try clear r_k4); have r_k4 := k4.cells)
      | ((with_reducible refine gate_dst (N := 8) rfl ?_); refine wpList_alloc rfl _ rfl _ (zero24 _) #[.slice none 0 0, .slice none 0 0, .int .i64 0] rfl ?_; intro g_k8 w9 hg_k8 k8 f9; have zf_k8 := f.size; have hl_k8 := k8.lt; have z9 := f9.size; replace f := f.trans f9; (try replace m1 := m1.fr f9); (try replace m2 := m2.fr f9); (try replace ho1 := ho1.fr f9); (try replace ho2 := ho2.fr f9); (try (replace k4 := k4.fr f9; (try clear r_k4); have r_k4 := k4.cells)); (try (replace k12 := k12.fr f9; (try clear r_k12); have r_k12 := k12.cells)); (try clear r_k8); have r_k8 := k8.cells)
      | (go_at_call 58; (with_reducible refine (coinsOf_c _ _).mono ?_); rintro e w9 ⟨rfl, rfl⟩; rw [HC.out])
      | (go_at_call 26; (with_reducible refine (BankOk_c _ b [v1, v2, .int .i64 b.locked] (tBk_mk (h11.fr f) (h12.fr f) h13)).mono ?_); rintro e w9 ⟨rfl, f9⟩; (try rw [Dd2.out]); (try rw [Dd3.out]); (try rw [Dd1.out]); have z9 := f9.size; replace f := f.trans f9; (try replace m1 := m1.fr f9); (try replace m2 := m2.fr f9); (try replace ho1 := ho1.fr f9); (try replace ho2 := ho2.fr f9); (try (replace k4 := k4.fr f9; (try clear r_k4); have r_k4 := k4.cells)); (try (replace k8 := k8.fr f9; (try clear r_k8); have r_k8 := k8.cells)); (try (replace k12 := k12.fr f9; (try clear r_k12); have r_k12 := k12.cells)))
      | (go_at_call 59; (with_reducible refine (userOk_c _ _).mono ?_); rintro e w9 ⟨rfl, rfl⟩; (try rw [Dd2.out]); (try rw [Dd3.out]); (try rw [Dd1.out]))
      | (go_at_call 60; (with_reducible refine (ledgerOf_c _ b [v1, v2, .int .i64 b.locked] (tBk_mk (h11.fr f) (h12.fr f) h13) LN.out).mono ?_); rintro e w9 ⟨g1, g2, rfl, m1, m2, gne, lo1, lo2, f9⟩; have tm1 := m1.lt; have tm2 := m2.lt; have z9 := f9.size; replace f := f.trans f9; (try replace m1 := m1.fr f9); (try replace m2 := m2.fr f9); (try replace ho1 := ho1.fr f9); (try replace ho2 := ho2.fr f9); (try (replace k4 := k4.fr f9; (try clear r_k4); have r_k4 := k4.cells)); (try (replace k8 := k8.fr f9; (try clear r_k8); have r_k8 := k8.cells)); (try (replace k12 := k12.fr f9; (try clear r_k12); have r_k12 := k12.cells)))
      | ((with_reducible refine gate_dst (N := 12) rfl ?_); refine wpList_alloc rfl _ rfl _ (lzero70 _) #[.map none, .map none, .int .i64 0] rfl ?_; intro g_k12 w9 hg_k12 k12 f9; have zf_k12 := f.size; have hl_k12 := k12.lt; have z9 := f9.size; replace f := f.trans f9; (try replace m1 := m1.fr f9); (try replace m2 := m2.fr f9); (try replace ho1 := ho1.fr f9); (try replace ho2 := ho2.fr f9); (try (replace k4 := k4.fr f9; (try clear r_k4); have r_k4 := k4.cells)); (try (replace k8 := k8.fr f9; (try clear r_k8); have r_k8 := k8.cells)); (try clear r_k12); have r_k12 := k12.cells)
      | (((with_reducible refine gate_store (p := 12) rfl ?_); refine wpList_bstore k12 rfl _ _ _ rfl 0 3 rfl (.agg #[.map (some g1), .map (some g2), .int .i64 b.locked]) rfl #[.map (some g1), .map (some g2), .int .i64 b.locked] rfl rfl size70 (by simp) (by intro u hu; simp at hu; rcases hu with rfl | rfl | rfl <;> rfl) #[.map (some g1), .map (some g2), .int .i64 b.locked] rfl ?_; intro w9 k9 c9; have z9 := c9.size; replace f := f.own c9 (fun q hq => by have := List.mem_singleton.1 hq; have := f.size; omega); (try replace ho1 := ho1.chg c9 (fun q hq hm => by have := hb1 q hq; have := hu1 q hq; have := List.mem_singleton.1 hm; omega)); (try replace ho2 := ho2.chg c9 (fun q hq hm => by have := hb2 q hq; have := hu2 q hq; have := List.mem_singleton.1 hm; omega)); (try (replace k4 := k4.chg c9 (fun hm => by have := List.mem_singleton.1 hm; omega); (try clear r_k4); have r_k4 := k4.cells)); (try (replace k8 := k8.chg c9 (fun hm => by have := List.mem_singleton.1 hm; omega); (try clear r_k8); have r_k8 := k8.cells)); replace k12 := k9; clear k9; (try clear r_k12); have r_k12 := k12.cells); (try replace m1 := m1.chg c9 (fun hm => by have := List.mem_singleton.1 hm; omega)); (try replace m2 := m2.chg c9 (fun hm => by have := List.mem_singleton.1 hm; omega)))
      | (go_at_call 50; (with_reducible refine (amountTotal_c _ v2 b.notes (h12.fr f)).mono ?_); rintro e w9 ⟨rfl, rfl⟩; rw [T2.out])
      | ((with_reducible refine gate_dst (N := 67) rfl ?_); refine wpList_bload k12 rfl _ _ rfl 0 3 rfl _ Try.underlying70 rfl size70 (by simp) #[.map (some g1), .map (some g2), .int .i64 b.locked] rfl ?_)
      | (go_at_call 65; (with_reducible refine (noteCoins_c _ _ _ _).mono ?_); rintro e w9 ⟨rfl, f9⟩; have z9 := f9.size; replace f := f.trans f9; (try replace m1 := m1.fr f9); (try replace m2 := m2.fr f9); (try replace ho1 := ho1.fr f9); (try replace ho2 := ho2.fr f9); (try (replace k4 := k4.fr f9; (try clear r_k4); have r_k4 := k4.cells)); (try (replace k8 := k8.fr f9; (try clear r_k8); have r_k8 := k8.cells)); (try (replace k12 := k12.fr f9; (try clear r_k12); have r_k12 := k12.cells)))
      | ((with_reducible refine gate_dst (N := 70) rfl ?_); refine wpList_lookv rfl _ _ rfl Try.underlying68 Try.underlying3 rfl m2 (fr.toNat - 1) LI.out x HX.out _ rfl (by omega) ?_)
      | ((with_reducible refine gate_map rfl ?_); refine wpList_mapset rfl _ _ _ rfl Try.underlying68 Try.underlying3 rfl m2 (fr.toNat - 1) LI.out _ (x + s) rfl rfl (by omega) ?_; intro w9 h9 c9; rw [HY.out] at h9; have z9 := c9.size; replace f := f.own c9 (fun q hq => by have := List.mem_singleton.1 hq; omega); replace m2 := h9; clear h9; replace m1 := m1.chg c9 (fun hm => by have := List.mem_singleton.1 hm; omega); replace k4 := k4.chg c9 (fun hm => by have := List.mem_singleton.1 hm; omega); replace k8 := k8.chg c9 (fun hm => by have := List.mem_singleton.1 hm; omega); replace k12 := k12.chg c9 (fun hm => by have := List.mem_singleton.1 hm; omega); (try clear r_k4); (try clear r_k8); (try clear r_k12); have r_k12 := k12.cells)
      | ((with_reducible refine gate_dst (N := 73) rfl ?_); refine wpList_bload k12 rfl _ _ rfl 0 3 rfl _ Try.underlying70 rfl size70 (by simp) #[.map (some g1), .map (some g2), .int .i64 b.locked] rfl ?_)
      | (go_at_call 61; (with_reducible refine (ledgerBank_c _ g1 g2 b.own ys b.locked m1 m2 LZ.out hI).mono ?_); rintro e w9 ⟨_, F, rfl, ⟨o1, o2, F1, F2, rfl, rfl, ho1, ho2, _⟩, hn, hb0, f9⟩; have hb1 := fun g hg => hb0 g (List.mem_append_left _ hg); have hb2 := fun g hg => hb0 g (List.mem_append_right _ hg); have hu1 := ho1.lt; have hu2 := ho2.lt; have z9 := f9.size; replace f := f.trans f9; (try replace m1 := m1.fr f9); (try replace m2 := m2.fr f9); (try replace ho1 := ho1.fr f9); (try replace ho2 := ho2.fr f9); (try (replace k4 := k4.fr f9; (try clear r_k4); have r_k4 := k4.cells)); (try (replace k8 := k8.fr f9; (try clear r_k8); have r_k8 := k8.cells)); (try (replace k12 := k12.fr f9; (try clear r_k12); have r_k12 := k12.cells)))
      | ((with_reducible refine gate_store (p := 8) rfl ?_); refine wpList_bstore k8 rfl _ _ _ rfl 0 3 rfl (.agg #[o1, o2, .int .i64 b.locked]) rfl #[o1, o2, .int .i64 b.locked] rfl rfl size24 (by simp) (by intro u hu; simp at hu; rcases hu with rfl | rfl | rfl; exact ho1.one; exact ho2.one; rfl) #[o1, o2, .int .i64 b.locked] rfl ?_; intro w9 k9 c9; have z9 := c9.size; replace f := f.own c9 (fun q hq => by have := List.mem_singleton.1 hq; have := f.size; omega); (try replace ho1 := ho1.chg c9 (fun q hq hm => by have := hb1 q hq; have := hu1 q hq; have := List.mem_singleton.1 hm; omega)); (try replace ho2 := ho2.chg c9 (fun q hq hm => by have := hb2 q hq; have := hu2 q hq; have := List.mem_singleton.1 hm; omega)); (try (replace k4 := k4.chg c9 (fun hm => by have := List.mem_singleton.1 hm; omega); (try clear r_k4); have r_k4 := k4.cells)); (try (replace k12 := k12.chg c9 (fun hm => by have := List.mem_singleton.1 hm; omega); (try clear r_k12); have r_k12 := k12.cells)); replace k8 := k9; clear k9; (try clear r_k8); have r_k8 := k8.cells))
    exact bodyPost_ret (v := .tuple #[.agg #[o1, o2, .int .i64 b.locked], .bool true]) (results_cell_row2 rfl _ _ g_k8 _ _ _ _ rfl k8.blk Try.underlying24 rfl size24 _ rfl) rfl ⟨[o1, o2, .int .i64 b.locked], F1 ++ F2, by rw [e.out], by rw [e.out]; exact ⟨_, _, F1, F2, rfl, rfl, ho1, ho2, hI⟩, hn, lo_append (lo_mono hb1 (by omega)) (lo_mono hb2 (by omega)) (Nat.le_refl _), f⟩
end Go.Proofs.Ytnpggjlhdnbgoaa
