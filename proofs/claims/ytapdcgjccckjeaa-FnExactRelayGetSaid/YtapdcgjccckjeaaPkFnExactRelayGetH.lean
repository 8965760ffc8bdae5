/- The texts ImplBackD, EqPk, StHasD, RelA, RelB, RelC, RelD, RelE, RelF. -/
import Derived.Test.YtapdcgjccckjeaaPkFnExactRelayGetG
import Derived.RegionTactic
import Derived.ChangeKeysEq
namespace Go.Proofs.Ytapdcgjccckjeaa
set_option maxRecDepth 100000
set_option linter.unusedVariables false
set_option linter.unusedSimpArgs false
open Go.RowKit
set_option maxHeartbeats 6400000 in
theorem BankBack_c (w : World) (b : Bk) (c1 : List Value) (h1 : tBk.rd w b c1) (k fr s : Int) (bk : I64 k) (bf : I64 fr) (bs : I64 s) : Calls Try.prog 145 #[.agg c1.toArray, .int .i64 k, .int .i64 fr, .int .i64 s] w (RetOwn2 tBk (backR b k fr s) w) := by
  obtain ⟨v1, v2, rfl, h11, h12, h13⟩ := h1
  have f := Fr.refl w
  unfold I64 at bk bf bs
  cases d2 : decide (1 ≤ k ∧ k ≤ 2) with
  | false =>
    have e := Lib.hid (show backR b k fr s = (nilBk, false) by unfold backR; rw [if_neg (by simp only [bkOk, d2]; simp)])
    have HC := Lib.hid (coinsV_no (of_decide_eq_false d2))
    have Dd2 := Lib.hid d2
    clear d2
    go_enter Try.func145, Try.ntmps145
    go_wp2_with (first
      | ((with_reducible refine gate_dst (N := 4) rfl ?_); refine wpList_box rfl _ _ rfl #[v1, v2, .int .i64 b.locked] rfl ?_; intro g_k4 w9 hg_k4 k4 f9; have zf_k4 := f.size; have hl_k4 := k4.lt; have z9 := f9.size; replace f := f.trans f9; (try (replace k8 := k8.fr f9; (try clear r_k8); have r_k8 := k8.cells)); (try (replace k12 := k12.fr f9; (try clear r_k12); have r_k12 := k12.cells)); (try clear r_k4); have r_k4 := k4.cells)
      | ((with_reducible refine gate_dst (N := 8) rfl ?_); refine wpList_alloc rfl _ rfl _ (zero26 _) #[.slice none 0 0, .slice none 0 0, .int .i64 0] rfl ?_; intro g_k8 w9 hg_k8 k8 f9; have zf_k8 := f.size; have hl_k8 := k8.lt; have z9 := f9.size; replace f := f.trans f9; (try (replace k4 := k4.fr f9; (try clear r_k4); have r_k4 := k4.cells)); (try (replace k12 := k12.fr f9; (try clear r_k12); have r_k12 := k12.cells)); (try clear r_k8); have r_k8 := k8.cells)
      | (go_at_call 148; (with_reducible refine (coinsOf_c _ _).mono ?_); rintro e w9 ⟨rfl, rfl⟩; rw [HC.out])
      | (go_at_call 67; (with_reducible refine (BankOk_c _ b [v1, v2, .int .i64 b.locked] (tBk_mk (h11.fr f) (h12.fr f) h13)).mono ?_); rintro e w9 ⟨rfl, f9⟩; (try rw [Dd2.out]); have z9 := f9.size; replace f := f.trans f9; (try (replace k4 := k4.fr f9; (try clear r_k4); have r_k4 := k4.cells)); (try (replace k8 := k8.fr f9; (try clear r_k8); have r_k8 := k8.cells)); (try (replace k12 := k12.fr f9; (try clear r_k12); have r_k12 := k12.cells)))
      | (go_at_call 143; (with_reducible refine (userOk_c _ _).mono ?_); rintro e w9 ⟨rfl, rfl⟩; (try rw [Dd2.out]))
      | ((with_reducible refine gate_store (p := 8) rfl ?_); refine wpList_bstore k8 rfl _ _ _ rfl 0 3 rfl (.agg #[.slice none 0 0, .slice none 0 0, .int .i64 0]) rfl #[.slice none 0 0, .slice none 0 0, .int .i64 0] rfl rfl size26 (by simp) (by intro u hu; simp at hu; rcases hu with rfl | rfl <;> rfl) #[.slice none 0 0, .slice none 0 0, .int .i64 0] rfl ?_; intro w9 k9 c9; have z9 := c9.size; replace f := f.own c9 (fun q hq => by have := List.mem_singleton.1 hq; have := f.size; omega); (try (replace k4 := k4.chg c9 (fun hm => by have := List.mem_singleton.1 hm; omega); (try clear r_k4); have r_k4 := k4.cells)); (try (replace k12 := k12.chg c9 (fun hm => by have := List.mem_singleton.1 hm; omega); (try clear r_k12); have r_k12 := k12.cells)); replace k8 := k9; clear k9; (try clear r_k8); have r_k8 := k8.cells))
    exact bodyPost_ret (v := .tuple #[.agg #[.slice none 0 0, .slice none 0 0, .int .i64 0], .bool false]) (results_cell_row2 rfl _ _ g_k8 _ _ _ _ rfl k8.blk Try.underlying26 rfl size26 _ rfl) rfl ⟨[.slice none 0 0, .slice none 0 0, .int .i64 0], [], by rw [e.out], by rw [e.out]; exact nilBk_own _, by simp, by simp, f⟩
  | true =>
  have hk2 := of_decide_eq_true d2
  obtain ⟨fn, hfn⟩ := coinsV_ok hk2
  cases d3 : decide (1 ≤ fr ∧ fr ≤ 3) with
  | false =>
    have e := Lib.hid (show backR b k fr s = (nilBk, false) by unfold backR; rw [if_neg (by simp only [bkOk, d2, d3]; simp)])
    have HC := Lib.hid hfn
    clear hfn
    have Dd2 := Lib.hid d2
    clear d2
    have Dd3 := Lib.hid d3
    clear d3
    go_enter Try.func145, Try.ntmps145
    go_wp2_with (first
      | ((with_reducible refine gate_dst (N := 4) rfl ?_); refine wpList_box rfl _ _ rfl #[v1, v2, .int .i64 b.locked] rfl ?_; intro g_k4 w9 hg_k4 k4 f9; have zf_k4 := f.size; have hl_k4 := k4.lt; have z9 := f9.size; replace f := f.trans f9; (try (replace k8 := k8.fr f9; (try clear r_k8); have r_k8 := k8.cells)); (try (replace k12 := k12.fr f9; (try clear r_k12); have r_k12 := k12.cells)); (try clear r_k4); have r_k4 := k4.cells)
      | ((with_reducible refine gate_dst (N := 8) rfl ?_); refine wpList_alloc rfl _ rfl _ (zero26 _) #[.slice none 0 0, .slice none 0 0, .int .i64 0] rfl ?_; intro g_k8 w9 hg_k8 k8 f9; have zf_k8 := f.size; have hl_k8 := k8.lt; have z9 := f9.size; replace f := f.trans f9; (try (replace k4 := k4.fr f9; (try clear r_k4); have r_k4 := k4.cells)); (try (replace k12 := k12.fr f9; (try clear r_k12); have r_k12 := k12.cells)); (try clear r_k8); have r_k8 := k8.cells)
      | (go_at_call 148; (with_reducible refine (coinsOf_c _ _).mono ?_); rintro e w9 ⟨rfl, rfl⟩; rw [HC.out])
      | (go_at_call 67; (with_reducible refine (BankOk_c _ b [v1, v2, .int .i64 b.locked] (tBk_mk (h11.fr f) (h12.fr f) h13)).mono ?_); rintro e w9 ⟨rfl, f9⟩; (try rw [Dd2.out]); (try rw [Dd3.out]); have z9 := f9.size; replace f := f.trans f9; (try (replace k4 := k4.fr f9; (try clear r_k4); have r_k4 := k4.cells)); (try (replace k8 := k8.fr f9; (try clear r_k8); have r_k8 := k8.cells)); (try (replace k12 := k12.fr f9; (try clear r_k12); have r_k12 := k12.cells)))
      | (go_at_call 143; (with_reducible refine (userOk_c _ _).mono ?_); rintro e w9 ⟨rfl, rfl⟩; (try rw [Dd2.out]); (try rw [Dd3.out]))
      | ((with_reducible refine gate_store (p := 8) rfl ?_); refine wpList_bstore k8 rfl _ _ _ rfl 0 3 rfl (.agg #[.slice none 0 0, .slice none 0 0, .int .i64 0]) rfl #[.slice none 0 0, .slice none 0 0, .int .i64 0] rfl rfl size26 (by simp) (by intro u hu; simp at hu; rcases hu with rfl | rfl <;> rfl) #[.slice none 0 0, .slice none 0 0, .int .i64 0] rfl ?_; intro w9 k9 c9; have z9 := c9.size; replace f := f.own c9 (fun q hq => by have := List.mem_singleton.1 hq; have := f.size; omega); (try (replace k4 := k4.chg c9 (fun hm => by have := List.mem_singleton.1 hm; omega); (try clear r_k4); have r_k4 := k4.cells)); (try (replace k12 := k12.chg c9 (fun hm => by have := List.mem_singleton.1 hm; omega); (try clear r_k12); have r_k12 := k12.cells)); replace k8 := k9; clear k9; (try clear r_k8); have r_k8 := k8.cells))
    exact bodyPost_ret (v := .tuple #[.agg #[.slice none 0 0, .slice none 0 0, .int .i64 0], .bool false]) (results_cell_row2 rfl _ _ g_k8 _ _ _ _ rfl k8.blk Try.underlying26 rfl size26 _ rfl) rfl ⟨[.slice none 0 0, .slice none 0 0, .int .i64 0], [], by rw [e.out], by rw [e.out]; exact nilBk_own _, by simp, by simp, f⟩
  | true =>
  have hfr := of_decide_eq_true d3
  by_cases hs : s < 0
  · have e := Lib.hid (show backR b k fr s = (nilBk, false) by unfold backR; rw [if_neg (by simp only [bkOk, decide_eq_false (show ¬ (0 ≤ s ∧ s ≤ 30) by omega)]; simp)])
    have HC := Lib.hid hfn
    clear hfn
    have Dd2 := Lib.hid d2
    clear d2
    have Dd3 := Lib.hid d3
    clear d3
    go_enter Try.func145, Try.ntmps145
    go_wp2_with (first
      | ((with_reducible refine gate_dst (N := 4) rfl ?_); refine wpList_box rfl _ _ rfl #[v1, v2, .int .i64 b.locked] rfl ?_; intro g_k4 w9 hg_k4 k4 f9; have zf_k4 := f.size; have hl_k4 := k4.lt; have z9 := f9.size; replace f := f.trans f9; (try (replace k8 := k8.fr f9; (try clear r_k8); have r_k8 := k8.cells)); (try (replace k12 := k12.fr f9; (try clear r_k12); have r_k12 := k12.cells)); (try clear r_k4); have r_k4 := k4.cells)
      | ((with_reducible refine gate_dst (N := 8) rfl ?_); refine wpList_alloc rfl _ rfl _ (zero26 _) #[.slice none 0 0, .slice none 0 0, .int .i64 0] rfl ?_; intro g_k8 w9 hg_k8 k8 f9; have zf_k8 := f.size; have hl_k8 := k8.lt; have z9 := f9.size; replace f := f.trans f9; (try (replace k4 := k4.fr f9; (try clear r_k4); have r_k4 := k4.cells)); (try (replace k12 := k12.fr f9; (try clear r_k12); have r_k12 := k12.cells)); (try clear r_k8); have r_k8 := k8.cells)
      | (go_at_call 148; (with_reducible refine (coinsOf_c _ _).mono ?_); rintro e w9 ⟨rfl, rfl⟩; rw [HC.out])
      | (go_at_call 67; (with_reducible refine (BankOk_c _ b [v1, v2, .int .i64 b.locked] (tBk_mk (h11.fr f) (h12.fr f) h13)).mono ?_); rintro e w9 ⟨rfl, f9⟩; (try rw [Dd2.out]); (try rw [Dd3.out]); have z9 := f9.size; replace f := f.trans f9; (try (replace k4 := k4.fr f9; (try clear r_k4); have r_k4 := k4.cells)); (try (replace k8 := k8.fr f9; (try clear r_k8); have r_k8 := k8.cells)); (try (replace k12 := k12.fr f9; (try clear r_k12); have r_k12 := k12.cells)))
      | (go_at_call 143; (with_reducible refine (userOk_c _ _).mono ?_); rintro e w9 ⟨rfl, rfl⟩; (try rw [Dd2.out]); (try rw [Dd3.out]))
      | ((with_reducible refine gate_store (p := 8) rfl ?_); refine wpList_bstore k8 rfl _ _ _ rfl 0 3 rfl (.agg #[.slice none 0 0, .slice none 0 0, .int .i64 0]) rfl #[.slice none 0 0, .slice none 0 0, .int .i64 0] rfl rfl size26 (by simp) (by intro u hu; simp at hu; rcases hu with rfl | rfl <;> rfl) #[.slice none 0 0, .slice none 0 0, .int .i64 0] rfl ?_; intro w9 k9 c9; have z9 := c9.size; replace f := f.own c9 (fun q hq => by have := List.mem_singleton.1 hq; have := f.size; omega); (try (replace k4 := k4.chg c9 (fun hm => by have := List.mem_singleton.1 hm; omega); (try clear r_k4); have r_k4 := k4.cells)); (try (replace k12 := k12.chg c9 (fun hm => by have := List.mem_singleton.1 hm; omega); (try clear r_k12); have r_k12 := k12.cells)); replace k8 := k9; clear k9; (try clear r_k8); have r_k8 := k8.cells))
    exact bodyPost_ret (v := .tuple #[.agg #[.slice none 0 0, .slice none 0 0, .int .i64 0], .bool false]) (results_cell_row2 rfl _ _ g_k8 _ _ _ _ rfl k8.blk Try.underlying26 rfl size26 _ rfl) rfl ⟨[.slice none 0 0, .slice none 0 0, .int .i64 0], [], by rw [e.out], by rw [e.out]; exact nilBk_own _, by simp, by simp, f⟩
  have hs0 : 0 ≤ s := by omega
  have hsf : decide (s < 0) = false := decide_eq_false hs
  by_cases hs3 : 30 < s
  · have e := Lib.hid (show backR b k fr s = (nilBk, false) by unfold backR; rw [if_neg (by simp only [bkOk, decide_eq_false (show ¬ (0 ≤ s ∧ s ≤ 30) by omega)]; simp)])
    have HC := Lib.hid hfn
    clear hfn
    have Dd2 := Lib.hid d2
    clear d2
    have Dd3 := Lib.hid d3
    clear d3
    go_enter Try.func145, Try.ntmps145
    go_wp2_with (first
      | ((with_reducible refine gate_dst (N := 4) rfl ?_); refine wpList_box rfl _ _ rfl #[v1, v2, .int .i64 b.locked] rfl ?_; intro g_k4 w9 hg_k4 k4 f9; have zf_k4 := f.size; have hl_k4 := k4.lt; have z9 := f9.size; replace f := f.trans f9; (try (replace k8 := k8.fr f9; (try clear r_k8); have r_k8 := k8.cells)); (try (replace k12 := k12.fr f9; (try clear r_k12); have r_k12 := k12.cells)); (try clear r_k4); have r_k4 := k4.cells)
      | ((with_reducible refine gate_dst (N := 8) rfl ?_); refine wpList_alloc rfl _ rfl _ (zero26 _) #[.slice none 0 0, .slice none 0 0, .int .i64 0] rfl ?_; intro g_k8 w9 hg_k8 k8 f9; have zf_k8 := f.size; have hl_k8 := k8.lt; have z9 := f9.size; replace f := f.trans f9; (try (replace k4 := k4.fr f9; (try clear r_k4); have r_k4 := k4.cells)); (try (replace k12 := k12.fr f9; (try clear r_k12); have r_k12 := k12.cells)); (try clear r_k8); have r_k8 := k8.cells)
      | (go_at_call 148; (with_reducible refine (coinsOf_c _ _).mono ?_); rintro e w9 ⟨rfl, rfl⟩; rw [HC.out])
      | (go_at_call 67; (with_reducible refine (BankOk_c _ b [v1, v2, .int .i64 b.locked] (tBk_mk (h11.fr f) (h12.fr f) h13)).mono ?_); rintro e w9 ⟨rfl, f9⟩; (try rw [Dd2.out]); (try rw [Dd3.out]); have z9 := f9.size; replace f := f.trans f9; (try (replace k4 := k4.fr f9; (try clear r_k4); have r_k4 := k4.cells)); (try (replace k8 := k8.fr f9; (try clear r_k8); have r_k8 := k8.cells)); (try (replace k12 := k12.fr f9; (try clear r_k12); have r_k12 := k12.cells)))
      | (go_at_call 143; (with_reducible refine (userOk_c _ _).mono ?_); rintro e w9 ⟨rfl, rfl⟩; (try rw [Dd2.out]); (try rw [Dd3.out]))
      | ((with_reducible refine gate_store (p := 8) rfl ?_); refine wpList_bstore k8 rfl _ _ _ rfl 0 3 rfl (.agg #[.slice none 0 0, .slice none 0 0, .int .i64 0]) rfl #[.slice none 0 0, .slice none 0 0, .int .i64 0] rfl rfl size26 (by simp) (by intro u hu; simp at hu; rcases hu with rfl | rfl <;> rfl) #[.slice none 0 0, .slice none 0 0, .int .i64 0] rfl ?_; intro w9 k9 c9; have z9 := c9.size; replace f := f.own c9 (fun q hq => by have := List.mem_singleton.1 hq; have := f.size; omega); (try (replace k4 := k4.chg c9 (fun hm => by have := List.mem_singleton.1 hm; omega); (try clear r_k4); have r_k4 := k4.cells)); (try (replace k12 := k12.chg c9 (fun hm => by have := List.mem_singleton.1 hm; omega); (try clear r_k12); have r_k12 := k12.cells)); replace k8 := k9; clear k9; (try clear r_k8); have r_k8 := k8.cells))
    exact bodyPost_ret (v := .tuple #[.agg #[.slice none 0 0, .slice none 0 0, .int .i64 0], .bool false]) (results_cell_row2 rfl _ _ g_k8 _ _ _ _ rfl k8.blk Try.underlying26 rfl size26 _ rfl) rfl ⟨[.slice none 0 0, .slice none 0 0, .int .i64 0], [], by rw [e.out], by rw [e.out]; exact nilBk_own _, by simp, by simp, f⟩
  have hs4 : s ≤ 30 := by omega
  have hsg : decide (30 < s) = false := decide_eq_false hs3
  cases d1 : okBk b with
  | false =>
    have e := Lib.hid (show backR b k fr s = (nilBk, false) by unfold backR; rw [if_neg (by simp only [bkOk, d1]; simp)])
    have HC := Lib.hid hfn
    clear hfn
    have Dd2 := Lib.hid d2
    clear d2
    have Dd3 := Lib.hid d3
    clear d3
    have Dd1 := Lib.hid d1
    clear d1
    go_enter Try.func145, Try.ntmps145
    go_wp2_with (first
      | ((with_reducible refine gate_dst (N := 4) rfl ?_); refine wpList_box rfl _ _ rfl #[v1, v2, .int .i64 b.locked] rfl ?_; intro g_k4 w9 hg_k4 k4 f9; have zf_k4 := f.size; have hl_k4 := k4.lt; have z9 := f9.size; replace f := f.trans f9; (try (replace k8 := k8.fr f9; (try clear r_k8); have r_k8 := k8.cells)); (try (replace k12 := k12.fr f9; (try clear r_k12); have r_k12 := k12.cells)); (try clear r_k4); have r_k4 := k4.cells)
      | ((with_reducible refine gate_dst (N := 8) rfl ?_); refine wpList_alloc rfl _ rfl _ (zero26 _) #[.slice none 0 0, .slice none 0 0, .int .i64 0] rfl ?_; intro g_k8 w9 hg_k8 k8 f9; have zf_k8 := f.size; have hl_k8 := k8.lt; have z9 := f9.size; replace f := f.trans f9; (try (replace k4 := k4.fr f9; (try clear r_k4); have r_k4 := k4.cells)); (try (replace k12 := k12.fr f9; (try clear r_k12); have r_k12 := k12.cells)); (try clear r_k8); have r_k8 := k8.cells)
      | (go_at_call 148; (with_reducible refine (coinsOf_c _ _).mono ?_); rintro e w9 ⟨rfl, rfl⟩; rw [HC.out])
      | (go_at_call 67; (with_reducible refine (BankOk_c _ b [v1, v2, .int .i64 b.locked] (tBk_mk (h11.fr f) (h12.fr f) h13)).mono ?_); rintro e w9 ⟨rfl, f9⟩; (try rw [Dd2.out]); (try rw [Dd3.out]); (try rw [Dd1.out]); have z9 := f9.size; replace f := f.trans f9; (try (replace k4 := k4.fr f9; (try clear r_k4); have r_k4 := k4.cells)); (try (replace k8 := k8.fr f9; (try clear r_k8); have r_k8 := k8.cells)); (try (replace k12 := k12.fr f9; (try clear r_k12); have r_k12 := k12.cells)))
      | (go_at_call 143; (with_reducible refine (userOk_c _ _).mono ?_); rintro e w9 ⟨rfl, rfl⟩; (try rw [Dd2.out]); (try rw [Dd3.out]); (try rw [Dd1.out]))
      | ((with_reducible refine gate_store (p := 8) rfl ?_); refine wpList_bstore k8 rfl _ _ _ rfl 0 3 rfl (.agg #[.slice none 0 0, .slice none 0 0, .int .i64 0]) rfl #[.slice none 0 0, .slice none 0 0, .int .i64 0] rfl rfl size26 (by simp) (by intro u hu; simp at hu; rcases hu with rfl | rfl <;> rfl) #[.slice none 0 0, .slice none 0 0, .int .i64 0] rfl ?_; intro w9 k9 c9; have z9 := c9.size; replace f := f.own c9 (fun q hq => by have := List.mem_singleton.1 hq; have := f.size; omega); (try (replace k4 := k4.chg c9 (fun hm => by have := List.mem_singleton.1 hm; omega); (try clear r_k4); have r_k4 := k4.cells)); (try (replace k12 := k12.chg c9 (fun hm => by have := List.mem_singleton.1 hm; omega); (try clear r_k12); have r_k12 := k12.cells)); replace k8 := k9; clear k9; (try clear r_k8); have r_k8 := k8.cells))
    exact bodyPost_ret (v := .tuple #[.agg #[.slice none 0 0, .slice none 0 0, .int .i64 0], .bool false]) (results_cell_row2 rfl _ _ g_k8 _ _ _ _ rfl k8.blk Try.underlying26 rfl size26 _ rfl) rfl ⟨[.slice none 0 0, .slice none 0 0, .int .i64 0], [], by rw [e.out], by rw [e.out]; exact nilBk_own _, by simp, by simp, f⟩
  | true =>
  obtain ⟨q1, q2, q3, q4, q5⟩ := okBk_split d1
  have ln1 := okL_len q1
  have ln2 := okL_len q2
  have sb1 := sum_bd q1
  have sb2 := sum_bd q2
  have LN := Lib.hid (And.intro ln1 ln2)
  clear hfn
  rcases (by omega : k = 1 ∨ k = 2) with rfl | rfl
  · skip
    have HC := Lib.hid (show coinsV 1 = .tuple #[.func (.func 156) #[] #[], .bool true] from rfl)
    have bx := okL_get q1 (fr.toNat - 1) (by omega)
    rw [at0_get (by omega)] at bx
    obtain ⟨x, hx⟩ : ∃ x, at0 b.own (fr.toNat - 1) = x := ⟨_, rfl⟩
    rw [hx] at bx
    have LI := Lib.hid (show fr.toNat - 1 < b.own.length by omega)
    by_cases hlt : b.locked < s
    · have e := Lib.hid (show backR b 1 fr s = (nilBk, false) by rw [backR, if_neg (by rw [bkOk_eq d1 hk2 hfr ⟨hs0, hs4⟩]; simp; omega)])
      clear hx ln1 ln2
      have Dd2 := Lib.hid d2
      clear d2
      have Dd3 := Lib.hid d3
      clear d3
      have Dd1 := Lib.hid d1
      clear d1
      go_enter Try.func145, Try.ntmps145
      go_wp2_with (first
        | ((with_reducible refine gate_dst (N := 4) rfl ?_); refine wpList_box rfl _ _ rfl #[v1, v2, .int .i64 b.locked] rfl ?_; intro g_k4 w9 hg_k4 k4 f9; have zf_k4 := f.size; have hl_k4 := k4.lt; have z9 := f9.size; replace f := f.trans f9; (try replace m1 := m1.fr f9); (try replace m2 := m2.fr f9); (try (replace k8 := k8.fr f9; (try clear r_k8); have r_k8 := k8.cells)); (try (replace k12 := k12.fr f9; (try clear r_k12); have r_k12 := k12.cells)); (try clear r_k4); have r_k4 := k4.cells)
        | ((with_reducible refine gate_dst (N := 8) rfl ?_); refine wpList_alloc rfl _ rfl _ (zero26 _) #[.slice none 0 0, .slice none 0 0, .int .i64 0] rfl ?_; intro g_k8 w9 hg_k8 k8 f9; have zf_k8 := f.size; have hl_k8 := k8.lt; have z9 := f9.size; replace f := f.trans f9; (try replace m1 := m1.fr f9); (try replace m2 := m2.fr f9); (try (replace k4 := k4.fr f9; (try clear r_k4); have r_k4 := k4.cells)); (try (replace k12 := k12.fr f9; (try clear r_k12); have r_k12 := k12.cells)); (try clear r_k8); have r_k8 := k8.cells)
        | (go_at_call 148; (with_reducible refine (coinsOf_c _ _).mono ?_); rintro e w9 ⟨rfl, rfl⟩; rw [HC.out])
        | (go_at_call 67; (with_reducible refine (BankOk_c _ b [v1, v2, .int .i64 b.locked] (tBk_mk (h11.fr f) (h12.fr f) h13)).mono ?_); rintro e w9 ⟨rfl, f9⟩; (try rw [Dd2.out]); (try rw [Dd3.out]); (try rw [Dd1.out]); have z9 := f9.size; replace f := f.trans f9; (try replace m1 := m1.fr f9); (try replace m2 := m2.fr f9); (try (replace k4 := k4.fr f9; (try clear r_k4); have r_k4 := k4.cells)); (try (replace k8 := k8.fr f9; (try clear r_k8); have r_k8 := k8.cells)); (try (replace k12 := k12.fr f9; (try clear r_k12); have r_k12 := k12.cells)))
        | (go_at_call 143; (with_reducible refine (userOk_c _ _).mono ?_); rintro e w9 ⟨rfl, rfl⟩; (try rw [Dd2.out]); (try rw [Dd3.out]); (try rw [Dd1.out]))
        | (go_at_call 149; (with_reducible refine (ledgerOf_c _ b [v1, v2, .int .i64 b.locked] (tBk_mk (h11.fr f) (h12.fr f) h13) LN.out).mono ?_); rintro e w9 ⟨g1, g2, rfl, m1, m2, gne, lo1, lo2, f9⟩; have tm1 := m1.lt; have tm2 := m2.lt; have z9 := f9.size; replace f := f.trans f9; (try replace m1 := m1.fr f9); (try replace m2 := m2.fr f9); (try (replace k4 := k4.fr f9; (try clear r_k4); have r_k4 := k4.cells)); (try (replace k8 := k8.fr f9; (try clear r_k8); have r_k8 := k8.cells)); (try (replace k12 := k12.fr f9; (try clear r_k12); have r_k12 := k12.cells)))
        | ((with_reducible refine gate_dst (N := 12) rfl ?_); refine wpList_alloc rfl _ rfl _ (lzero168 _) #[.map none, .map none, .int .i64 0] rfl ?_; intro g_k12 w9 hg_k12 k12 f9; have zf_k12 := f.size; have hl_k12 := k12.lt; have z9 := f9.size; replace f := f.trans f9; (try replace m1 := m1.fr f9); (try replace m2 := m2.fr f9); (try (replace k4 := k4.fr f9; (try clear r_k4); have r_k4 := k4.cells)); (try (replace k8 := k8.fr f9; (try clear r_k8); have r_k8 := k8.cells)); (try clear r_k12); have r_k12 := k12.cells)
        | (((with_reducible refine gate_store (p := 12) rfl ?_); refine wpList_bstore k12 rfl _ _ _ rfl 0 3 rfl (.agg #[.map (some g1), .map (some g2), .int .i64 b.locked]) rfl #[.map (some g1), .map (some g2), .int .i64 b.locked] rfl rfl size168 (by simp) (by intro u hu; simp at hu; rcases hu with rfl | rfl | rfl <;> rfl) #[.map (some g1), .map (some g2), .int .i64 b.locked] rfl ?_; intro w9 k9 c9; have z9 := c9.size; replace f := f.own c9 (fun q hq => by have := List.mem_singleton.1 hq; have := f.size; omega); (try (replace k4 := k4.chg c9 (fun hm => by have := List.mem_singleton.1 hm; omega); (try clear r_k4); have r_k4 := k4.cells)); (try (replace k8 := k8.chg c9 (fun hm => by have := List.mem_singleton.1 hm; omega); (try clear r_k8); have r_k8 := k8.cells)); replace k12 := k9; clear k9; (try clear r_k12); have r_k12 := k12.cells); (try replace m1 := m1.chg c9 (fun hm => by have := List.mem_singleton.1 hm; omega)); (try replace m2 := m2.chg c9 (fun hm => by have := List.mem_singleton.1 hm; omega)))
        | ((with_reducible refine gate_store (p := 8) rfl ?_); refine wpList_bstore k8 rfl _ _ _ rfl 0 3 rfl (.agg #[.slice none 0 0, .slice none 0 0, .int .i64 0]) rfl #[.slice none 0 0, .slice none 0 0, .int .i64 0] rfl rfl size26 (by simp) (by intro u hu; simp at hu; rcases hu with rfl | rfl <;> rfl) #[.slice none 0 0, .slice none 0 0, .int .i64 0] rfl ?_; intro w9 k9 c9; have z9 := c9.size; replace f := f.own c9 (fun q hq => by have := List.mem_singleton.1 hq; have := f.size; omega); (try (replace k4 := k4.chg c9 (fun hm => by have := List.mem_singleton.1 hm; omega); (try clear r_k4); have r_k4 := k4.cells)); (try (replace k12 := k12.chg c9 (fun hm => by have := List.mem_singleton.1 hm; omega); (try clear r_k12); have r_k12 := k12.cells)); replace k8 := k9; clear k9; (try clear r_k8); have r_k8 := k8.cells))
      exact bodyPost_ret (v := .tuple #[.agg #[.slice none 0 0, .slice none 0 0, .int .i64 0], .bool false]) (results_cell_row2 rfl _ _ g_k8 _ _ _ _ rfl k8.blk Try.underlying26 rfl size26 _ rfl) rfl ⟨[.slice none 0 0, .slice none 0 0, .int .i64 0], [], by rw [e.out], by rw [e.out]; exact nilBk_own _, by simp, by simp, f⟩
    have ltf : decide (b.locked < s) = false := decide_eq_false hlt
    obtain ⟨ys, hys⟩ : ∃ ys, addAt b.own (fr.toNat - 1) s = ys := ⟨_, rfl⟩
    have hyl : ys.length = 3 := by rw [← hys, addAt_len]; omega
    have hy1 : b.own.set (fr.toNat - 1) (x + s) = ys := by rw [← hys, addAt, hx]
    have e := Lib.hid (show backR b 1 fr s = ((⟨ys, b.notes, b.locked - s⟩ : Bk), true) by rw [(show backR b 1 fr s = (backBk b 1 fr s, true) by rw [backR, if_pos (by rw [bkOk_eq d1 hk2 hfr ⟨hs0, hs4⟩]; simp; omega)]), show backBk b 1 fr s = (⟨ys, b.notes, b.locked - s⟩ : Bk) by rw [← hys]; rfl])
    have hI : I64 (b.locked - s) := by unfold I64; omega
    have HX := Lib.hid hx
    have HY := Lib.hid hy1
    have LZ := Lib.hid (show ys.length = 3 ∧ b.notes.length = 3 by exact ⟨by omega, by omega⟩)
    clear ln1 ln2 hyl hys hy1 hx
    have Dd2 := Lib.hid d2
    clear d2
    have Dd3 := Lib.hid d3
    clear d3
    have Dd1 := Lib.hid d1
    clear d1
    go_enter Try.func145, Try.ntmps145
    go_wp2_with (first
      | ((with_reducible refine gate_dst (N := 4) rfl ?_); refine wpList_box rfl _ _ rfl #[v1, v2, .int .i64 b.locked] rfl ?_; intro g_k4 w9 hg_k4 k4 f9; have zf_k4 := f.size; have hl_k4 := k4.lt; have z9 := f9.size; replace f := f.trans f9; (try replace m1 := m1.fr f9); (try replace m2 := m2.fr f9); (try replace ho1 := ho1.fr f9); (try replace ho2 := ho2.fr f9); (try (replace k8 := k8.fr f9; (try clear r_k8); have r_k8 := k8.cells)); (try (replace k12 := k12.fr f9; (try clear r_k12); have r_k12 := k12.cells)); (try clear r_k4); have r_k4 := k4.cells)
      | ((with_reducible refine gate_dst (N := 8) rfl ?_); refine wpList_alloc rfl _ rfl _ (zero26 _) #[.slice none 0 0, .slice none 0 0, .int .i64 0] rfl ?_; intro g_k8 w9 hg_k8 k8 f9; have zf_k8 := f.size; have hl_k8 := k8.lt; have z9 := f9.size; replace f := f.trans f9; (try replace m1 := m1.fr f9); (try replace m2 := m2.fr f9); (try replace ho1 := ho1.fr f9); (try replace ho2 := ho2.fr f9); (try (replace k4 := k4.fr f9; (try clear r_k4); have r_k4 := k4.cells)); (try (replace k12 := k12.fr f9; (try clear r_k12); have r_k12 := k12.cells)); (try clear r_k8); have r_k8 := k8.cells)
      | (go_at_call 148; (with_reducible refine (coinsOf_c _ _).mono ?_); rintro e w9 ⟨rfl, rfl⟩; rw [HC.out])
      | (go_at_call 67; (with_reducible refine (BankOk_c _ b [v1, v2, .int .i64 b.locked] (tBk_mk (h11.fr f) (h12.fr f) h13)).mono ?_); rintro e w9 ⟨rfl, f9⟩; (try rw [Dd2.out]); (try rw [Dd3.out]); (try rw [Dd1.out]); have z9 := f9.size; replace f := f.trans f9; (try replace m1 := m1.fr f9); (try replace m2 := m2.fr f9); (try replace ho1 := ho1.fr f9); (try replace ho2 := ho2.fr f9); (try (replace k4 := k4.fr f9; (try clear r_k4); have r_k4 := k4.cells)); (try (replace k8 := k8.fr f9; (try clear r_k8); have r_k8 := k8.cells)); (try (replace k12 := k12.fr f9; (try clear r_k12); have r_k12 := k12.cells)))
      | (go_at_call 143; (with_reducible refine (userOk_c _ _).mono ?_); rintro e w9 ⟨rfl, rfl⟩; (try rw [Dd2.out]); (try rw [Dd3.out]); (try rw [Dd1.out]))
      | (go_at_call 149; (with_reducible refine (ledgerOf_c _ b [v1, v2, .int .i64 b.locked] (tBk_mk (h11.fr f) (h12.fr f) h13) LN.out).mono ?_); rintro e w9 ⟨g1, g2, rfl, m1, m2, gne, lo1, lo2, f9⟩; have tm1 := m1.lt; have tm2 := m2.lt; have z9 := f9.size; replace f := f.trans f9; (try replace m1 := m1.fr f9); (try replace m2 := m2.fr f9); (try replace ho1 := ho1.fr f9); (try replace ho2 := ho2.fr f9); (try (replace k4 := k4.fr f9; (try clear r_k4); have r_k4 := k4.cells)); (try (replace k8 := k8.fr f9; (try clear r_k8); have r_k8 := k8.cells)); (try (replace k12 := k12.fr f9; (try clear r_k12); have r_k12 := k12.cells)))
      | ((with_reducible refine gate_dst (N := 12) rfl ?_); refine wpList_alloc rfl _ rfl _ (lzero168 _) #[.map none, .map none, .int .i64 0] rfl ?_; intro g_k12 w9 hg_k12 k12 f9; have zf_k12 := f.size; have hl_k12 := k12.lt; have z9 := f9.size; replace f := f.trans f9; (try replace m1 := m1.fr f9); (try replace m2 := m2.fr f9); (try replace ho1 := ho1.fr f9); (try replace ho2 := ho2.fr f9); (try (replace k4 := k4.fr f9; (try clear r_k4); have r_k4 := k4.cells)); (try (replace k8 := k8.fr f9; (try clear r_k8); have r_k8 := k8.cells)); (try clear r_k12); have r_k12 := k12.cells)
      | (((with_reducible refine gate_store (p := 12) rfl ?_); refine wpList_bstore k12 rfl _ _ _ rfl 0 3 rfl (.agg #[.map (some g1), .map (some g2), .int .i64 b.locked]) rfl #[.map (some g1), .map (some g2), .int .i64 b.locked] rfl rfl size168 (by simp) (by intro u hu; simp at hu; rcases hu with rfl | rfl | rfl <;> rfl) #[.map (some g1), .map (some g2), .int .i64 b.locked] rfl ?_; intro w9 k9 c9; have z9 := c9.size; replace f := f.own c9 (fun q hq => by have := List.mem_singleton.1 hq; have := f.size; omega); (try replace ho1 := ho1.chg c9 (fun q hq hm => by have := hb1 q hq; have := hu1 q hq; have := List.mem_singleton.1 hm; omega)); (try replace ho2 := ho2.chg c9 (fun q hq hm => by have := hb2 q hq; have := hu2 q hq; have := List.mem_singleton.1 hm; omega)); (try (replace k4 := k4.chg c9 (fun hm => by have := List.mem_singleton.1 hm; omega); (try clear r_k4); have r_k4 := k4.cells)); (try (replace k8 := k8.chg c9 (fun hm => by have := List.mem_singleton.1 hm; omega); (try clear r_k8); have r_k8 := k8.cells)); replace k12 := k9; clear k9; (try clear r_k12); have r_k12 := k12.cells); (try replace m1 := m1.chg c9 (fun hm => by have := List.mem_singleton.1 hm; omega)); (try replace m2 := m2.chg c9 (fun hm => by have := List.mem_singleton.1 hm; omega)))
      | ((with_reducible refine gate_dst (N := 67) rfl ?_); refine wpList_bload k12 rfl _ _ rfl 0 3 rfl _ Try.underlying168 rfl size168 (by simp) #[.map (some g1), .map (some g2), .int .i64 (b.locked - s)] rfl ?_)
      | (go_at_call 156; (with_reducible refine (ownCoins_c _ _ _ _).mono ?_); rintro e w9 ⟨rfl, f9⟩; have z9 := f9.size; replace f := f.trans f9; (try replace m1 := m1.fr f9); (try replace m2 := m2.fr f9); (try replace ho1 := ho1.fr f9); (try replace ho2 := ho2.fr f9); (try (replace k4 := k4.fr f9; (try clear r_k4); have r_k4 := k4.cells)); (try (replace k8 := k8.fr f9; (try clear r_k8); have r_k8 := k8.cells)); (try (replace k12 := k12.fr f9; (try clear r_k12); have r_k12 := k12.cells)))
      | ((with_reducible refine gate_dst (N := 70) rfl ?_); refine wpList_lookv rfl _ _ rfl Try.underlying166 Try.underlying3 rfl m1 (fr.toNat - 1) LI.out x HX.out _ rfl (by omega) ?_)
      | (((with_reducible refine gate_store (p := 54) rfl ?_); refine wpList_bstore1 k12 rfl _ _ _ rfl 2 rfl (.int .i64 (b.locked - s)) rfl (rfl) size3 (by simp) #[.map (some g1), .map (some g2), .int .i64 (b.locked - s)] rfl ?_; intro w9 k9 c9; have z9 := c9.size; replace f := f.own c9 (fun q hq => by have := List.mem_singleton.1 hq; have := f.size; omega); (try replace ho1 := ho1.chg c9 (fun q hq hm => by have := hb1 q hq; have := hu1 q hq; have := List.mem_singleton.1 hm; omega)); (try replace ho2 := ho2.chg c9 (fun q hq hm => by have := hb2 q hq; have := hu2 q hq; have := List.mem_singleton.1 hm; omega)); (try (replace k4 := k4.chg c9 (fun hm => by have := List.mem_singleton.1 hm; omega); (try clear r_k4); have r_k4 := k4.cells)); (try (replace k8 := k8.chg c9 (fun hm => by have := List.mem_singleton.1 hm; omega); (try clear r_k8); have r_k8 := k8.cells)); replace k12 := k9; clear k9; (try clear r_k12); have r_k12 := k12.cells); (try replace m1 := m1.chg c9 (fun hm => by have := List.mem_singleton.1 hm; omega)); (try replace m2 := m2.chg c9 (fun hm => by have := List.mem_singleton.1 hm; omega)))
      | ((with_reducible refine gate_map rfl ?_); refine wpList_mapset rfl _ _ _ rfl Try.underlying166 Try.underlying3 rfl m1 (fr.toNat - 1) LI.out _ (x + s) rfl rfl (by omega) ?_; intro w9 h9 c9; rw [HY.out] at h9; have z9 := c9.size; replace f := f.own c9 (fun q hq => by have := List.mem_singleton.1 hq; omega); replace m1 := h9; clear h9; replace m2 := m2.chg c9 (fun hm => by have := List.mem_singleton.1 hm; omega); replace k4 := k4.chg c9 (fun hm => by have := List.mem_singleton.1 hm; omega); replace k8 := k8.chg c9 (fun hm => by have := List.mem_singleton.1 hm; omega); replace k12 := k12.chg c9 (fun hm => by have := List.mem_singleton.1 hm; omega); (try clear r_k4); (try clear r_k8); (try clear r_k12); have r_k12 := k12.cells)
      | ((with_reducible refine gate_dst (N := 73) rfl ?_); refine wpList_bload k12 rfl _ _ rfl 0 3 rfl _ Try.underlying168 rfl size168 (by simp) #[.map (some g1), .map (some g2), .int .i64 (b.locked - s)] rfl ?_)
      | (go_at_call 150; (with_reducible refine (ledgerBank_c _ g1 g2 ys b.notes (b.locked - s) m1 m2 LZ.out hI).mono ?_); rintro e w9 ⟨_, F, rfl, ⟨o1, o2, F1, F2, rfl, rfl, ho1, ho2, _⟩, hn, hb0, f9⟩; have hb1 := fun g hg => hb0 g (List.mem_append_left _ hg); have hb2 := fun g hg => hb0 g (List.mem_append_right _ hg); have hu1 := ho1.lt; have hu2 := ho2.lt; have z9 := f9.size; replace f := f.trans f9; (try replace m1 := m1.fr f9); (try replace m2 := m2.fr f9); (try replace ho1 := ho1.fr f9); (try replace ho2 := ho2.fr f9); (try (replace k4 := k4.fr f9; (try clear r_k4); have r_k4 := k4.cells)); (try (replace k8 := k8.fr f9; (try clear r_k8); have r_k8 := k8.cells)); (try (replace k12 := k12.fr f9; (try clear r_k12); have r_k12 := k12.cells)))
      | ((with_reducible refine gate_store (p := 8) rfl ?_); refine wpList_bstore k8 rfl _ _ _ rfl 0 3 rfl (.agg #[o1, o2, .int .i64 (b.locked - s)]) rfl #[o1, o2, .int .i64 (b.locked - s)] rfl rfl size26 (by simp) (by intro u hu; simp at hu; rcases hu with rfl | rfl | rfl; exact ho1.one; exact ho2.one; rfl) #[o1, o2, .int .i64 (b.locked - s)] rfl ?_; intro w9 k9 c9; have z9 := c9.size; replace f := f.own c9 (fun q hq => by have := List.mem_singleton.1 hq; have := f.size; omega); (try replace ho1 := ho1.chg c9 (fun q hq hm => by have := hb1 q hq; have := hu1 q hq; have := List.mem_singleton.1 hm; omega)); (try replace ho2 := ho2.chg c9 (fun q hq hm => by have := hb2 q hq; have := hu2 q hq; have := List.mem_singleton.1 hm; omega)); (try (replace k4 := k4.chg c9 (fun hm => by have := List.mem_singleton.1 hm; omega); (try clear r_k4); have r_k4 := k4.cells)); (try (replace k12 := k12.chg c9 (fun hm => by have := List.mem_singleton.1 hm; omega); (try clear r_k12); have r_k12 := k12.cells)); replace k8 := k9; clear k9; (try clear r_k8); have r_k8 := k8.cells))
    exact bodyPost_ret (v := .tuple #[.agg #[o1, o2, .int .i64 (b.locked - s)], .bool true]) (results_cell_row2 rfl _ _ g_k8 _ _ _ _ rfl k8.blk Try.underlying26 rfl size26 _ rfl) rfl ⟨[o1, o2, .int .i64 (b.locked - s)], F1 ++ F2, by rw [e.out], by rw [e.out]; exact ⟨_, _, F1, F2, rfl, rfl, ho1, ho2, hI⟩, hn, lo_append (lo_mono hb1 (by omega)) (lo_mono hb2 (by omega)) (Nat.le_refl _), f⟩
  · skip
    have HC := Lib.hid (show coinsV 2 = .tuple #[.func (.func 157) #[] #[], .bool true] from rfl)
    have bx := okL_get q2 (fr.toNat - 1) (by omega)
    rw [at0_get (by omega)] at bx
    obtain ⟨x, hx⟩ : ∃ x, at0 b.notes (fr.toNat - 1) = x := ⟨_, rfl⟩
    rw [hx] at bx
    have LI := Lib.hid (show fr.toNat - 1 < b.notes.length by omega)
    have T2 := Lib.hid (totL_yes q2)
    by_cases hlt : 30 < b.notes.sum + s
    · have e := Lib.hid (show backR b 2 fr s = (nilBk, false) by rw [backR, if_neg (by rw [bkOk_eq d1 hk2 hfr ⟨hs0, hs4⟩]; simp; omega)])
      clear hx ln1 ln2
      have Dd2 := Lib.hid d2
      clear d2
      have Dd3 := Lib.hid d3
      clear d3
      have Dd1 := Lib.hid d1
      clear d1
      go_enter Try.func145, Try.ntmps145
      go_wp2_with (first
        | ((with_reducible refine gate_dst (N := 4) rfl ?_); refine wpList_box rfl _ _ rfl #[v1, v2, .int .i64 b.locked] rfl ?_; intro g_k4 w9 hg_k4 k4 f9; have zf_k4 := f.size; have hl_k4 := k4.lt; have z9 := f9.size; replace f := f.trans f9; (try replace m1 := m1.fr f9); (try replace m2 := m2.fr f9); (try (replace k8 := k8.fr f9; (try clear r_k8); have r_k8 := k8.cells)); (try (replace k12 := k12.fr f9; (try clear r_k12); have r_k12 := k12.cells)); (try clear r_k4); have r_k4 := k4.cells)
        | ((with_reducible refine gate_dst (N := 8) rfl ?_); refine wpList_alloc rfl _ rfl _ (zero26 _) #[.slice none 0 0, .slice none 0 0, .int .i64 0] rfl ?_; intro g_k8 w9 hg_k8 k8 f9; have zf_k8 := f.size; have hl_k8 := k8.lt; have z9 := f9.size; replace f := f.trans f9; (try replace m1 := m1.fr f9); (try replace m2 := m2.fr f9); (try (replace k4 := k4.fr f9; (try clear r_k4); have r_k4 := k4.cells)); (try (replace k12 := k12.fr f9; (try clear r_k12); have r_k12 := k12.cells)); (try clear r_k8); have r_k8 := k8.cells)
        | (go_at_call 148; (with_reducible refine (coinsOf_c _ _).mono ?_); rintro e w9 ⟨rfl, rfl⟩; rw [HC.out])
        | (go_at_call 67; (with_reducible refine (BankOk_c _ b [v1, v2, .int .i64 b.locked] (tBk_mk (h11.fr f) (h12.fr f) h13)).mono ?_); rintro e w9 ⟨rfl, f9⟩; (try rw [Dd2.out]); (try rw [Dd3.out]); (try rw [Dd1.out]); have z9 := f9.size; replace f := f.trans f9; (try replace m1 := m1.fr f9); (try replace m2 := m2.fr f9); (try (replace k4 := k4.fr f9; (try clear r_k4); have r_k4 := k4.cells)); (try (replace k8 := k8.fr f9; (try clear r_k8); have r_k8 := k8.cells)); (try (replace k12 := k12.fr f9; (try clear r_k12); have r_k12 := k12.cells)))
        | (go_at_call 143; (with_reducible refine (userOk_c _ _).mono ?_); rintro e w9 ⟨rfl, rfl⟩; (try rw [Dd2.out]); (try rw [Dd3.out]); (try rw [Dd1.out]))
        | (go_at_call 149; (with_reducible refine (ledgerOf_c _ b [v1, v2, .int .i64 b.locked] (tBk_mk (h11.fr f) (h12.fr f) h13) LN.out).mono ?_); rintro e w9 ⟨g1, g2, rfl, m1, m2, gne, lo1, lo2, f9⟩; have tm1 := m1.lt; have tm2 := m2.lt; have z9 := f9.size; replace f := f.trans f9; (try replace m1 := m1.fr f9); (try replace m2 := m2.fr f9); (try (replace k4 := k4.fr f9; (try clear r_k4); have r_k4 := k4.cells)); (try (replace k8 := k8.fr f9; (try clear r_k8); have r_k8 := k8.cells)); (try (replace k12 := k12.fr f9; (try clear r_k12); have r_k12 := k12.cells)))
        | ((with_reducible refine gate_dst (N := 12) rfl ?_); refine wpList_alloc rfl _ rfl _ (lzero168 _) #[.map none, .map none, .int .i64 0] rfl ?_; intro g_k12 w9 hg_k12 k12 f9; have zf_k12 := f.size; have hl_k12 := k12.lt; have z9 := f9.size; replace f := f.trans f9; (try replace m1 := m1.fr f9); (try replace m2 := m2.fr f9); (try (replace k4 := k4.fr f9; (try clear r_k4); have r_k4 := k4.cells)); (try (replace k8 := k8.fr f9; (try clear r_k8); have r_k8 := k8.cells)); (try clear r_k12); have r_k12 := k12.cells)
        | (((with_reducible refine gate_store (p := 12) rfl ?_); refine wpList_bstore k12 rfl _ _ _ rfl 0 3 rfl (.agg #[.map (some g1), .map (some g2), .int .i64 b.locked]) rfl #[.map (some g1), .map (some g2), .int .i64 b.locked] rfl rfl size168 (by simp) (by intro u hu; simp at hu; rcases hu with rfl | rfl | rfl <;> rfl) #[.map (some g1), .map (some g2), .int .i64 b.locked] rfl ?_; intro w9 k9 c9; have z9 := c9.size; replace f := f.own c9 (fun q hq => by have := List.mem_singleton.1 hq; have := f.size; omega); (try (replace k4 := k4.chg c9 (fun hm => by have := List.mem_singleton.1 hm; omega); (try clear r_k4); have r_k4 := k4.cells)); (try (replace k8 := k8.chg c9 (fun hm => by have := List.mem_singleton.1 hm; omega); (try clear r_k8); have r_k8 := k8.cells)); replace k12 := k9; clear k9; (try clear r_k12); have r_k12 := k12.cells); (try replace m1 := m1.chg c9 (fun hm => by have := List.mem_singleton.1 hm; omega)); (try replace m2 := m2.chg c9 (fun hm => by have := List.mem_singleton.1 hm; omega)))
        | (go_at_call 120; (with_reducible refine (amountTotal_c _ v2 b.notes (h12.fr f)).mono ?_); rintro e w9 ⟨rfl, rfl⟩; rw [T2.out])
        | ((with_reducible refine gate_store (p := 8) rfl ?_); refine wpList_bstore k8 rfl _ _ _ rfl 0 3 rfl (.agg #[.slice none 0 0, .slice none 0 0, .int .i64 0]) rfl #[.slice none 0 0, .slice none 0 0, .int .i64 0] rfl rfl size26 (by simp) (by intro u hu; simp at hu; rcases hu with rfl | rfl <;> rfl) #[.slice none 0 0, .slice none 0 0, .int .i64 0] rfl ?_; intro w9 k9 c9; have z9 := c9.size; replace f := f.own c9 (fun q hq => by have := List.mem_singleton.1 hq; have := f.size; omega); (try (replace k4 := k4.chg c9 (fun hm => by have := List.mem_singleton.1 hm; omega); (try clear r_k4); have r_k4 := k4.cells)); (try (replace k12 := k12.chg c9 (fun hm => by have := List.mem_singleton.1 hm; omega); (try clear r_k12); have r_k12 := k12.cells)); replace k8 := k9; clear k9; (try clear r_k8); have r_k8 := k8.cells))
      exact bodyPost_ret (v := .tuple #[.agg #[.slice none 0 0, .slice none 0 0, .int .i64 0], .bool false]) (results_cell_row2 rfl _ _ g_k8 _ _ _ _ rfl k8.blk Try.underlying26 rfl size26 _ rfl) rfl ⟨[.slice none 0 0, .slice none 0 0, .int .i64 0], [], by rw [e.out], by rw [e.out]; exact nilBk_own _, by simp, by simp, f⟩
    have ltf : decide (30 < b.notes.sum + s) = false := decide_eq_false hlt
    obtain ⟨ys, hys⟩ : ∃ ys, addAt b.notes (fr.toNat - 1) s = ys := ⟨_, rfl⟩
    have hyl : ys.length = 3 := by rw [← hys, addAt_len]; omega
    have hy1 : b.notes.set (fr.toNat - 1) (x + s) = ys := by rw [← hys, addAt, hx]
    have e := Lib.hid (show backR b 2 fr s = ((⟨b.own, ys, b.locked⟩ : Bk), true) by rw [(show backR b 2 fr s = (backBk b 2 fr s, true) by rw [backR, if_pos (by rw [bkOk_eq d1 hk2 hfr ⟨hs0, hs4⟩]; simp; omega)]), show backBk b 2 fr s = (⟨b.own, ys, b.locked⟩ : Bk) by rw [← hys]; rfl])
    have hI : I64 (b.locked) := by unfold I64; exact h13
    have HX := Lib.hid hx
    have HY := Lib.hid hy1
    have LZ := Lib.hid (show b.own.length = 3 ∧ ys.length = 3 by exact ⟨by omega, by omega⟩)
    clear ln1 ln2 hyl hys hy1 hx
    have Dd2 := Lib.hid d2
    clear d2
    have Dd3 := Lib.hid d3
    clear d3
    have Dd1 := Lib.hid d1
    clear d1
    go_enter Try.func145, Try.ntmps145
    go_wp2_with (first
      | ((with_reducible refine gate_dst (N := 4) rfl ?_); refine wpList_box rfl _ _ rfl #[v1, v2, .int .i64 b.locked] rfl ?_; intro g_k4 w9 hg_k4 k4 f9; have zf_k4 := f.size; have hl_k4 := k4.lt; have z9 := f9.size; replace f := f.trans f9; (try replace m1 := m1.fr f9); (try replace m2 := m2.fr f9); (try replace ho1 := ho1.fr f9); (try replace ho2 := ho2.fr f9); (try (replace k8 := k8.fr f9; (try clear r_k8); have r_k8 := k8.cells)); (try (replace k12 := k12.fr f9; (try clear r_k12); have r_k12 := k12.cells)); (try clear r_k4); have r_k4 := k4.cells)
      | ((with_reducible refine gate_dst (N := 8) rfl ?_); refine wpList_alloc rfl _ rfl _ (zero26 _) #[.slice none 0 0, .slice none 0 0, .int .i64 0] rfl ?_; intro g_k8 w9 hg_k8 k8 f9; have zf_k8 := f.size; have hl_k8 := k8.lt; have z9 := f9.size; replace f := f.trans f9; (try replace m1 := m1.fr f9); (try replace m2 := m2.fr f9); (try replace ho1 := ho1.fr f9); (try replace ho2 := ho2.fr f9); (try (replace k4 := k4.fr f9; (try clear r_k4); have r_k4 := k4.cells)); (try (replace k12 := k12.fr f9; (try clear r_k12); have r_k12 := k12.cells)); (try clear r_k8); have r_k8 := k8.cells)
      | (go_at_call 148; (with_reducible refine (coinsOf_c _ _).mono ?_); rintro e w9 ⟨rfl, rfl⟩; rw [HC.out])
      | (go_at_call 67; (with_reducible refine (BankOk_c _ b [v1, v2, .int .i64 b.locked] (tBk_mk (h11.fr f) (h12.fr f) h13)).mono ?_); rintro e w9 ⟨rfl, f9⟩; (try rw [Dd2.out]); (try rw [Dd3.out]); (try rw [Dd1.out]); have z9 := f9.size; replace f := f.trans f9; (try replace m1 := m1.fr f9); (try replace m2 := m2.fr f9); (try replace ho1 := ho1.fr f9); (try replace ho2 := ho2.fr f9); (try (replace k4 := k4.fr f9; (try clear r_k4); have r_k4 := k4.cells)); (try (replace k8 := k8.fr f9; (try clear r_k8); have r_k8 := k8.cells)); (try (replace k12 := k12.fr f9; (try clear r_k12); have r_k12 := k12.cells)))
      | (go_at_call 143; (with_reducible refine (userOk_c _ _).mono ?_); rintro e w9 ⟨rfl, rfl⟩; (try rw [Dd2.out]); (try rw [Dd3.out]); (try rw [Dd1.out]))
      | (go_at_call 149; (with_reducible refine (ledgerOf_c _ b [v1, v2, .int .i64 b.locked] (tBk_mk (h11.fr f) (h12.fr f) h13) LN.out).mono ?_); rintro e w9 ⟨g1, g2, rfl, m1, m2, gne, lo1, lo2, f9⟩; have tm1 := m1.lt; have tm2 := m2.lt; have z9 := f9.size; replace f := f.trans f9; (try replace m1 := m1.fr f9); (try replace m2 := m2.fr f9); (try replace ho1 := ho1.fr f9); (try replace ho2 := ho2.fr f9); (try (replace k4 := k4.fr f9; (try clear r_k4); have r_k4 := k4.cells)); (try (replace k8 := k8.fr f9; (try clear r_k8); have r_k8 := k8.cells)); (try (replace k12 := k12.fr f9; (try clear r_k12); have r_k12 := k12.cells)))
      | ((with_reducible refine gate_dst (N := 12) rfl ?_); refine wpList_alloc rfl _ rfl _ (lzero168 _) #[.map none, .map none, .int .i64 0] rfl ?_; intro g_k12 w9 hg_k12 k12 f9; have zf_k12 := f.size; have hl_k12 := k12.lt; have z9 := f9.size; replace f := f.trans f9; (try replace m1 := m1.fr f9); (try replace m2 := m2.fr f9); (try replace ho1 := ho1.fr f9); (try replace ho2 := ho2.fr f9); (try (replace k4 := k4.fr f9; (try clear r_k4); have r_k4 := k4.cells)); (try (replace k8 := k8.fr f9; (try clear r_k8); have r_k8 := k8.cells)); (try clear r_k12); have r_k12 := k12.cells)
      | (((with_reducible refine gate_store (p := 12) rfl ?_); refine wpList_bstore k12 rfl _ _ _ rfl 0 3 rfl (.agg #[.map (some g1), .map (some g2), .int .i64 b.locked]) rfl #[.map (some g1), .map (some g2), .int .i64 b.locked] rfl rfl size168 (by simp) (by intro u hu; simp at hu; rcases hu with rfl | rfl | rfl <;> rfl) #[.map (some g1), .map (some g2), .int .i64 b.locked] rfl ?_; intro w9 k9 c9; have z9 := c9.size; replace f := f.own c9 (fun q hq => by have := List.mem_singleton.1 hq; have := f.size; omega); (try replace ho1 := ho1.chg c9 (fun q hq hm => by have := hb1 q hq; have := hu1 q hq; have := List.mem_singleton.1 hm; omega)); (try replace ho2 := ho2.chg c9 (fun q hq hm => by have := hb2 q hq; have := hu2 q hq; have := List.mem_singleton.1 hm; omega)); (try (replace k4 := k4.chg c9 (fun hm => by have := List.mem_singleton.1 hm; omega); (try clear r_k4); have r_k4 := k4.cells)); (try (replace k8 := k8.chg c9 (fun hm => by have := List.mem_singleton.1 hm; omega); (try clear r_k8); have r_k8 := k8.cells)); replace k12 := k9; clear k9; (try clear r_k12); have r_k12 := k12.cells); (try replace m1 := m1.chg c9 (fun hm => by have := List.mem_singleton.1 hm; omega)); (try replace m2 := m2.chg c9 (fun hm => by have := List.mem_singleton.1 hm; omega)))
      | (go_at_call 120; (with_reducible refine (amountTotal_c _ v2 b.notes (h12.fr f)).mono ?_); rintro e w9 ⟨rfl, rfl⟩; rw [T2.out])
      | ((with_reducible refine gate_dst (N := 67) rfl ?_); refine wpList_bload k12 rfl _ _ rfl 0 3 rfl _ Try.underlying168 rfl size168 (by simp) #[.map (some g1), .map (some g2), .int .i64 b.locked] rfl ?_)
      | (go_at_call 157; (with_reducible refine (noteCoins_c _ _ _ _).mono ?_); rintro e w9 ⟨rfl, f9⟩; have z9 := f9.size; replace f := f.trans f9; (try replace m1 := m1.fr f9); (try replace m2 := m2.fr f9); (try replace ho1 := ho1.fr f9); (try replace ho2 := ho2.fr f9); (try (replace k4 := k4.fr f9; (try clear r_k4); have r_k4 := k4.cells)); (try (replace k8 := k8.fr f9; (try clear r_k8); have r_k8 := k8.cells)); (try (replace k12 := k12.fr f9; (try clear r_k12); have r_k12 := k12.cells)))
      | ((with_reducible refine gate_dst (N := 70) rfl ?_); refine wpList_lookv rfl _ _ rfl Try.underlying166 Try.underlying3 rfl m2 (fr.toNat - 1) LI.out x HX.out _ rfl (by omega) ?_)
      | ((with_reducible refine gate_map rfl ?_); refine wpList_mapset rfl _ _ _ rfl Try.underlying166 Try.underlying3 rfl m2 (fr.toNat - 1) LI.out _ (x + s) rfl rfl (by omega) ?_; intro w9 h9 c9; rw [HY.out] at h9; have z9 := c9.size; replace f := f.own c9 (fun q hq => by have := List.mem_singleton.1 hq; omega); replace m2 := h9; clear h9; replace m1 := m1.chg c9 (fun hm => by have := List.mem_singleton.1 hm; omega); replace k4 := k4.chg c9 (fun hm => by have := List.mem_singleton.1 hm; omega); replace k8 := k8.chg c9 (fun hm => by have := List.mem_singleton.1 hm; omega); replace k12 := k12.chg c9 (fun hm => by have := List.mem_singleton.1 hm; omega); (try clear r_k4); (try clear r_k8); (try clear r_k12); have r_k12 := k12.cells)
      | ((with_reducible refine gate_dst (N := 73) rfl ?_); refine wpList_bload k12 rfl _ _ rfl 0 3 rfl _ Try.underlying168 rfl size168 (by simp) #[.map (some g1), .map (some g2), .int .i64 b.locked] rfl ?_)
      | (go_at_call 150; (with_reducible refine (ledgerBank_c _ g1 g2 b.own ys b.locked m1 m2 LZ.out hI).mono ?_); rintro e w9 ⟨_, F, rfl, ⟨o1, o2, F1, F2, rfl, rfl, ho1, ho2, _⟩, hn, hb0, f9⟩; have hb1 := fun g hg => hb0 g (List.mem_append_left _ hg); have hb2 := fun g hg => hb0 g (List.mem_append_right _ hg); have hu1 := ho1.lt; have hu2 := ho2.lt; have z9 := f9.size; replace f := f.trans f9; (try replace m1 := m1.fr f9); (try replace m2 := m2.fr f9); (try replace ho1 := ho1.fr f9); (try replace ho2 := ho2.fr f9); (try (replace k4 := k4.fr f9; (try clear r_k4); have r_k4 := k4.cells)); (try (replace k8 := k8.fr f9; (try clear r_k8); have r_k8 := k8.cells)); (try (replace k12 := k12.fr f9; (try clear r_k12); have r_k12 := k12.cells)))
      | ((with_reducible refine gate_store (p := 8) rfl ?_); refine wpList_bstore k8 rfl _ _ _ rfl 0 3 rfl (.agg #[o1, o2, .int .i64 b.locked]) rfl #[o1, o2, .int .i64 b.locked] rfl rfl size26 (by simp) (by intro u hu; simp at hu; rcases hu with rfl | rfl | rfl; exact ho1.one; exact ho2.one; rfl) #[o1, o2, .int .i64 b.locked] rfl ?_; intro w9 k9 c9; have z9 := c9.size; replace f := f.own c9 (fun q hq => by have := List.mem_singleton.1 hq; have := f.size; omega); (try replace ho1 := ho1.chg c9 (fun q hq hm => by have := hb1 q hq; have := hu1 q hq; have := List.mem_singleton.1 hm; omega)); (try replace ho2 := ho2.chg c9 (fun q hq hm => by have := hb2 q hq; have := hu2 q hq; have := List.mem_singleton.1 hm; omega)); (try (replace k4 := k4.chg c9 (fun hm => by have := List.mem_singleton.1 hm; omega); (try clear r_k4); have r_k4 := k4.cells)); (try (replace k12 := k12.chg c9 (fun hm => by have := List.mem_singleton.1 hm; omega); (try clear r_k12); have r_k12 := k12.cells)); replace k8 := k9; clear k9; (try clear r_k8); have r_k8 := k8.cells))
    exact bodyPost_ret (v := .tuple #[.agg #[o1, o2, .int .i64 b.locked], .bool true]) (results_cell_row2 rfl _ _ g_k8 _ _ _ _ rfl k8.blk Try.underlying26 rfl size26 _ rfl) rfl ⟨[o1, o2, .int .i64 b.locked], F1 ++ F2, by rw [e.out], by rw [e.out]; exact ⟨_, _, F1, F2, rfl, rfl, ho1, ho2, hI⟩, hn, lo_append (lo_mono hb1 (by omega)) (lo_mono hb2 (by omega)) (Nat.le_refl _), f⟩
end Go.Proofs.Ytapdcgjccckjeaa
namespace Go.Proofs.Ytapdcgjccckjeaa
set_option maxRecDepth 100000
set_option linter.unusedVariables false
set_option linter.unusedSimpArgs false
open Go.RowKit
def eqPk (p q : Pk) : Bool := (p.seq == q.seq) && ((p.kind == q.kind) && ((p.frm == q.frm) && ((p.dst == q.dst) && ((p.sum == q.sum) && ((p.til == q.til) && (p.ver == q.ver))))))
theorem run_eqint (w : World) (d : Nat) (a b : Int) : (Op.equalIn (d + 1) 3 (.int .i64 a) (.int .i64 b)).run Try.prog w = .ok (a == b) w := by
  simp [Op.equalIn, run_underlying Try.underlying3]
theorem run_part7_0 (w : World) (x0 x1 x2 x3 x4 x5 x6 : Value) : (part 3 #[x0, x1, x2, x3, x4, x5, x6] 0).run Try.prog w = .ok x0 w := by kernel_rfl
theorem run_part7_1 (w : World) (x0 x1 x2 x3 x4 x5 x6 : Value) : (part 3 #[x0, x1, x2, x3, x4, x5, x6] 1).run Try.prog w = .ok x1 w := by kernel_rfl
theorem run_part7_2 (w : World) (x0 x1 x2 x3 x4 x5 x6 : Value) : (part 3 #[x0, x1, x2, x3, x4, x5, x6] 2).run Try.prog w = .ok x2 w := by kernel_rfl
theorem run_part7_3 (w : World) (x0 x1 x2 x3 x4 x5 x6 : Value) : (part 3 #[x0, x1, x2, x3, x4, x5, x6] 3).run Try.prog w = .ok x3 w := by kernel_rfl
theorem run_part7_4 (w : World) (x0 x1 x2 x3 x4 x5 x6 : Value) : (part 3 #[x0, x1, x2, x3, x4, x5, x6] 4).run Try.prog w = .ok x4 w := by kernel_rfl
theorem run_part7_5 (w : World) (x0 x1 x2 x3 x4 x5 x6 : Value) : (part 3 #[x0, x1, x2, x3, x4, x5, x6] 5).run Try.prog w = .ok x5 w := by kernel_rfl
theorem run_part7_6 (w : World) (x0 x1 x2 x3 x4 x5 x6 : Value) : (part 3 #[x0, x1, x2, x3, x4, x5, x6] 6).run Try.prog w = .ok x6 w := by kernel_rfl
theorem run_eqlpk (w : World) (d : Nat) (a0 a1 a2 a3 a4 a5 a6 b0 b1 b2 b3 b4 b5 b6 : Int) : (Op.equalIn (d + 2) 88 (.agg #[.int .i64 a0, .int .i64 a1, .int .i64 a2, .int .i64 a3, .int .i64 a4, .int .i64 a5, .int .i64 a6]) (.agg #[.int .i64 b0, .int .i64 b1, .int .i64 b2, .int .i64 b3, .int .i64 b4, .int .i64 b5, .int .i64 b6])).run Try.prog w = .ok ((a0 == b0) && ((a1 == b1) && ((a2 == b2) && ((a3 == b3) && ((a4 == b4) && ((a5 == b5) && (a6 == b6))))))) w := by
  have st : (Try.prog).stoodInHeld 88 = false := by kernel_rfl
  rw [show d + 2 = (d + 1) + 1 from rfl]
  unfold Op.equalIn
  cases e0 : a0 == b0
  · simp [run_underlying Try.underlying88, st, run_part7_0, run_part7_1, run_part7_2, run_part7_3, run_part7_4, run_part7_5, run_part7_6, run_eqint, e0, -beq_eq_false_iff_ne, -beq_iff_eq]
  cases e1 : a1 == b1
  · simp [run_underlying Try.underlying88, st, run_part7_0, run_part7_1, run_part7_2, run_part7_3, run_part7_4, run_part7_5, run_part7_6, run_eqint, e0, e1, -beq_eq_false_iff_ne, -beq_iff_eq]
  cases e2 : a2 == b2
  · simp [run_underlying Try.underlying88, st, run_part7_0, run_part7_1, run_part7_2, run_part7_3, run_part7_4, run_part7_5, run_part7_6, run_eqint, e0, e1, e2, -beq_eq_false_iff_ne, -beq_iff_eq]
  cases e3 : a3 == b3
  · simp [run_underlying Try.underlying88, st, run_part7_0, run_part7_1, run_part7_2, run_part7_3, run_part7_4, run_part7_5, run_part7_6, run_eqint, e0, e1, e2, e3, -beq_eq_false_iff_ne, -beq_iff_eq]
  cases e4 : a4 == b4
  · simp [run_underlying Try.underlying88, st, run_part7_0, run_part7_1, run_part7_2, run_part7_3, run_part7_4, run_part7_5, run_part7_6, run_eqint, e0, e1, e2, e3, e4, -beq_eq_false_iff_ne, -beq_iff_eq]
  cases e5 : a5 == b5
  · simp [run_underlying Try.underlying88, st, run_part7_0, run_part7_1, run_part7_2, run_part7_3, run_part7_4, run_part7_5, run_part7_6, run_eqint, e0, e1, e2, e3, e4, e5, -beq_eq_false_iff_ne, -beq_iff_eq]
  cases e6 : a6 == b6
  · simp [run_underlying Try.underlying88, st, run_part7_0, run_part7_1, run_part7_2, run_part7_3, run_part7_4, run_part7_5, run_part7_6, run_eqint, e0, e1, e2, e3, e4, e5, e6, -beq_eq_false_iff_ne, -beq_iff_eq]
  simp [run_underlying Try.underlying88, st, run_part7_0, run_part7_1, run_part7_2, run_part7_3, run_part7_4, run_part7_5, run_part7_6, run_eqint, e0, e1, e2, e3, e4, e5, e6, -beq_eq_false_iff_ne, -beq_iff_eq]
theorem eqPk_iff {p q : Pk} : eqPk p q = true ↔ p = q := by
  cases p
  cases q
  simp [eqPk]
section
variable {ops : Array Oper} {rest : List Oper} {o : Oper} {a : Act} {Q : Exit → Act → World → Prop} {W : World}
theorem yields_eqpk {T : World → Prop} (hw : Region.wanted o (yielded ops a.tmps) = true) (x y : Operand) (z : TypeId) (ho : o.op = .binOp .eql 88 x y z) (p q : Pk) (hx : a.eval x = .agg #[.int .i64 p.seq, .int .i64 p.kind, .int .i64 p.frm, .int .i64 p.dst, .int .i64 p.sum, .int .i64 p.til, .int .i64 p.ver]) (hy : a.eval y = .agg #[.int .i64 q.seq, .int .i64 q.kind, .int .i64 q.frm, .int .i64 q.dst, .int .i64 q.sum, .int .i64 q.til, .int .i64 q.ver]) {r : Bool} (hr : eqPk p q = r) :
    YieldsIf Try.prog ops T o (.bool r) a := yields_of_run hw fun W _ => by
  have g1 : (Try.prog).eqGuardType (Try.prog).depth 88 = false := by kernel_rfl
  subst hr
  unfold execOp
  simp only [ho, hx, hy, Sem.run_bind, run_eqGuard_agg W _ _ _ _ _ _ g1, run_eql_struct, Result.andThen_ok, Sem.run_pure, run_eqlpk W 9998]
  rfl
end
end Go.Proofs.Ytapdcgjccckjeaa
namespace Go.Proofs.Ytapdcgjccckjeaa
set_option maxRecDepth 100000
set_option linter.unusedVariables false
set_option linter.unusedSimpArgs false
open Go.RowKit
def hasL (s : St) (p : Pk) : Bool := decide (1 ≤ p.seq ∧ p.seq ≤ s.sent.length) && (eqPk (s.sent.getD (p.seq - 1).toNat zPk) p && s.live.getD (p.seq - 1).toNat false)
def hasSt (s : St) (p : Pk) : Bool := okSt s && hasL s p
theorem hasL_at {s : St} {k : Nat} (h1 : k < s.sent.length) (h2 : k < s.live.length) (kd fr ds sm tl vr : Int) : hasL s ⟨(k : Int) + 1, kd, fr, ds, sm, tl, vr⟩ = (eqPk s.sent[k] ⟨(k : Int) + 1, kd, fr, ds, sm, tl, vr⟩ && s.live[k]) := by
  unfold hasL
  rw [decide_eq_true (by simp only []; omega), show ((k : Int) + 1 - 1).toNat = k by omega]
  simp [h1, h2]
theorem toPacket_l (w : World) (p : Pk) (hp : p.ok64) : Calls Try.prog 57 #[.agg #[.int .i64 p.seq, .int .i64 p.kind, .int .i64 p.frm, .int .i64 p.dst, .int .i64 p.sum, .int .i64 p.til, .int .i64 p.ver]] w (Ret (.agg #[.int .i64 p.seq, .int .i64 p.kind, .int .i64 p.frm, .int .i64 p.dst, .int .i64 p.sum, .int .i64 p.til, .int .i64 p.ver]) w) := toPacket_c w p hp
set_option maxRecDepth 100000 in
set_option maxHeartbeats 3200000 in
theorem StateHas_c (w : World) (s : St) (c0 : List Value) (h1 : tSt.rd w s c0) (p : Pk) : Calls Try.prog 155 #[.agg c0.toArray, .agg #[.int .i64 p.seq, .int .i64 p.kind, .int .i64 p.frm, .int .i64 p.dst, .int .i64 p.sum, .int .i64 p.til, .int .i64 p.ver]] w (Ret (.bool (hasSt s p)) w) := by
  have Q := Lib.hid h1
  obtain ⟨v1, v2, v3, v4, rfl, h11, h12, h13, h14, h15⟩ := h1
  obtain ⟨A1, c1, rfl⟩ := h11.val
  obtain ⟨A2, c2, rfl⟩ := h12.val
  obtain ⟨A3, c3, rfl⟩ := h13.val
  obtain ⟨A4, c4, rfl⟩ := h14.val
  have FIN := Lib.hid (fun (W : World) (f : Fr w W) => tSt.fr f Q.out)
  have S := Sep.start w
  clear h15
  obtain ⟨sq, kd, fr, ds, sm, tl, vr⟩ := p
  dsimp only
  cases o1 : okSt s with
  | false =>
    have R := Lib.hid (show hasSt s ⟨sq, kd, fr, ds, sm, tl, vr⟩ = false by unfold hasSt; rw [o1]; rfl)
    have O1 := Lib.hid o1
    clear o1
    go_enter Try.func155, Try.ntmps155
    go_wp2_with (first
      | (go_at_call 68; (with_reducible refine (StateOk_r _ s _ (FIN.out _ S.frame) O1.out).mono ?_); rintro e w9 ⟨rfl, f9⟩; replace S := S.fr f9; clear f9)
      | ((with_reducible refine gate_box rfl ?_); refine aBx S ?_; clear S; intro g9 w9 z9 S) | ((with_reducible refine gate_load rfl ?_); first | refine aLd S ?_ | refine aPt S ?_ | refine aL1 S ?_))
    go_ret
    exact ⟨by rw [R.out]; rfl, S.frame⟩
  | true =>
  have LN := Lib.hid (okSt_len o1)
  have O1 := Lib.hid o1
  have R0 := Lib.hid (show hasSt s ⟨sq, kd, fr, ds, sm, tl, vr⟩ = hasL s ⟨sq, kd, fr, ds, sm, tl, vr⟩ by unfold hasSt; rw [o1]; rfl)
  clear o1
  by_cases n1 : sq < 1
  case pos =>
    have t1 : decide (sq < 1) = true := decide_eq_true n1
    have R := Lib.hid (show hasSt s ⟨sq, kd, fr, ds, sm, tl, vr⟩ = false by rw [R0.out]; unfold hasL; rw [decide_eq_false (by simp only []; omega)]; rfl)
    clear n1
    go_enter Try.func155, Try.ntmps155
    go_wp2_with (first
      | (go_at_call 68; (with_reducible refine (StateOk_r _ s _ (FIN.out _ S.frame) O1.out).mono ?_); rintro e w9 ⟨rfl, f9⟩; replace S := S.fr f9; clear f9)
      | ((with_reducible refine gate_box rfl ?_); refine aBx S ?_; clear S; intro g9 w9 z9 S) | ((with_reducible refine gate_load rfl ?_); first | refine aLd S ?_ | refine aPt S ?_ | refine aL1 S ?_))
    go_ret
    exact ⟨by rw [R.out]; rfl, S.frame⟩
  by_cases n2 : (s.sent.length : Int) < sq
  case pos =>
    have t1 : decide (sq < 1) = false := decide_eq_false n1
    have t2 : decide ((s.sent.length : Int) < sq) = true := decide_eq_true n2
    have R := Lib.hid (show hasSt s ⟨sq, kd, fr, ds, sm, tl, vr⟩ = false by rw [R0.out]; unfold hasL; rw [decide_eq_false (by simp only []; omega)]; rfl)
    clear n1 n2
    go_enter Try.func155, Try.ntmps155
    go_wp2_with (first
      | (go_at_call 68; (with_reducible refine (StateOk_r _ s _ (FIN.out _ S.frame) O1.out).mono ?_); rintro e w9 ⟨rfl, f9⟩; replace S := S.fr f9; clear f9)
      | ((with_reducible refine gate_box rfl ?_); refine aBx S ?_; clear S; intro g9 w9 z9 S) | ((with_reducible refine gate_load rfl ?_); first | refine aLd S ?_ | refine aPt S ?_ | refine aL1 S ?_))
    go_ret
    exact ⟨by rw [R.out]; rfl, S.frame⟩
  obtain ⟨k, rfl⟩ : ∃ k : Nat, sq = (k : Int) + 1 := ⟨(sq - 1).toNat, by omega⟩
  have hk : k < s.sent.length := by omega
  have k2 : k < s.live.length := by rw [LN.out.2.1]; exact hk
  obtain ⟨ad1, rfl, g1⟩ := pkAt_of_row h11 k hk
  obtain ⟨ad2, rfl, g2⟩ := row_bool_at h12 k k2
  have hs := hasL_at hk k2 kd fr ds sm tl vr
  have e2 := LN.out.2.1
  have m8 := LN.out.1
  obtain ⟨L, hL⟩ : ∃ L, s.sent.length = L := ⟨_, rfl⟩
  have FN := Lib.hid (fun (W : World) (f : Fr w W) => FIN.out W f)
  rw [e2, hL] at FN
  rw [e2, hL]
  generalize s.sent[k]'hk = x at *
  generalize s.live[k]'k2 = l at *
  have pw : IntKind.i64.wrap ((k : Int) + 1 - 1) = k := by rw [show (k : Int) + 1 - 1 = k by omega]; exact IntWalk.i64_in _ (by omega)
  have pw2 : IntKind.i64.wrap (k : Int) = k := IntWalk.i64_in _ (by omega)
  have HS := Lib.hid hs
  have G1 := Lib.hid g1
  have G2 := Lib.hid g2
  have p1 : (k : Int) < L := by omega
  have k4 : k < L := by omega
  have t1 : decide ((k : Int) + 1 < 1) = false := decide_eq_false (by omega)
  have t2 : decide ((L : Int) < (k : Int) + 1) = false := decide_eq_false (by omega)
  clear n1 n2 hs g1 g2 e2 hk k2 hL LN
  cases o2 : eqPk x ⟨(k : Int) + 1, kd, fr, ds, sm, tl, vr⟩ with
  | false =>
    have R := Lib.hid (show hasSt s ⟨(k : Int) + 1, kd, fr, ds, sm, tl, vr⟩ = false by rw [R0.out, HS.out, o2]; rfl)
    have O2 := Lib.hid o2
    clear o2
    go_enter Try.func155, Try.ntmps155
    go_wp2_with (first
      | (go_at_call 68; (with_reducible refine (StateOk_r _ s _ (FN.out _ S.frame) O1.out).mono ?_); rintro e w9 ⟨rfl, f9⟩; replace S := S.fr f9; clear f9)
      | ((with_reducible refine gate_box rfl ?_); refine aBx S ?_; clear S; intro g9 w9 z9 S) | ((with_reducible refine gate_load rfl ?_); first | refine aLd S ?_ | refine aPt S ?_ | refine aL1 S ?_))
    have S0 := S
    refine wp_region_noPanic ?_
    refine wp_region_held_drew (S := Sep _ _ _) (by kernel_rfl) S0.drew (fun _ => ?_)
    replace S := S.drew
    clear S0
    refine tk 0 ?_
    (try simp only [Act.put, List.setIfInBounds_toArray, List.set_cons_zero, List.set_cons_succ])
    refine tk 1 ?_
    (try simp only [Act.put, List.setIfInBounds_toArray, List.set_cons_zero, List.set_cons_succ])
    refine tk 2 ?_
    (try simp only [Act.put, List.setIfInBounds_toArray, List.set_cons_zero, List.set_cons_succ])
    refine tk 3 ?_
    (try simp only [Act.put, List.setIfInBounds_toArray, List.set_cons_zero, List.set_cons_succ])
    refine tk 4 ?_
    (try simp only [Act.put, List.setIfInBounds_toArray, List.set_cons_zero, List.set_cons_succ])
    refine tk 5 ?_
    (try simp only [Act.put, List.setIfInBounds_toArray, List.set_cons_zero, List.set_cons_succ])
    refine tk 6 ?_ (hy := by first | (refine' yields_pkld (p := x) ?ta 88 _ ?tb ?tc ?td _ ?te ?tf ?tg; (case ta => rfl); (case tb => rfl); (case tc => rfl); (case td => exact fun W hW => G1.out.fr hW.frame); (case te => exact Try.underlying88); (case tf => rfl); (case tg => exact ts88)) | (refine Or.inr ⟨by rfl, ?_⟩; rfl))
    (try simp only [Act.put, List.setIfInBounds_toArray, List.set_cons_zero, List.set_cons_succ])
    refine tk 7 ?_
    (try simp only [Act.put, List.setIfInBounds_toArray, List.set_cons_zero, List.set_cons_succ])
    refine tk 8 ?_ (hy := by first | (refine' yields_eqpk ?ta _ _ _ ?tb x ⟨(k : Int) + 1, kd, fr, ds, sm, tl, vr⟩ ?tc ?td O2.out; (case ta => rfl); (case tb => rfl); (case tc => rfl); (case td => rfl)) | (refine Or.inr ⟨by rfl, ?_⟩; rfl))
    (try simp only [Act.put, List.setIfInBounds_toArray, List.set_cons_zero, List.set_cons_succ])
    refine tk 9 ?_
    (try simp only [Act.put, List.setIfInBounds_toArray, List.set_cons_zero, List.set_cons_succ])
    refine tk 10 ?_
    (try simp only [Act.put, List.setIfInBounds_toArray, List.set_cons_zero, List.set_cons_succ])
    refine tk 11 ?_
    (try simp only [Act.put, List.setIfInBounds_toArray, List.set_cons_zero, List.set_cons_succ])
    refine tk 12 ?_
    (try simp only [Act.put, List.setIfInBounds_toArray, List.set_cons_zero, List.set_cons_succ])
    refine tk 13 ?_
    (try simp only [Act.put, List.setIfInBounds_toArray, List.set_cons_zero, List.set_cons_succ])
    refine tk 14 ?_
    (try simp only [Act.put, List.setIfInBounds_toArray, List.set_cons_zero, List.set_cons_succ])
    refine tk 15 ?_
    (try simp only [Act.put, List.setIfInBounds_toArray, List.set_cons_zero, List.set_cons_succ])
    refine tk 16 ?_ (hy := by first | (refine' yields_cell (v := .bool true) ?ta 4 _ ?tb ?tc ?td _ ?te ?tf; (case ta => rfl); (case tb => rfl); (case tc => rfl); (case td => exact fun W hW => hW.frame.cell G2.out); (case te => exact Try.underlying4); (case tf => rfl)) | (refine' yields_cell (v := .bool false) ?ta 4 _ ?tb ?tc ?td _ ?te ?tf; (case ta => rfl); (case tb => rfl); (case tc => rfl); (case td => exact fun W hW => hW.frame.cell G2.out); (case te => exact Try.underlying4); (case tf => rfl)) | (refine' yields_cell (v := .bool l) ?ta 4 _ ?tb ?tc ?td _ ?te ?tf; (case ta => rfl); (case tb => rfl); (case tc => rfl); (case td => exact fun W hW => hW.frame.cell G2.out); (case te => exact Try.underlying4); (case tf => rfl)) | (refine Or.inr ⟨by rfl, ?_⟩; rfl))
    (try simp only [Act.put, List.setIfInBounds_toArray, List.set_cons_zero, List.set_cons_succ])
    refine tk 17 ?_
    (try simp only [Act.put, List.setIfInBounds_toArray, List.set_cons_zero, List.set_cons_succ])
    refine tk 18 ?_
    (try simp only [Act.put, List.setIfInBounds_toArray, List.set_cons_zero, List.set_cons_succ])
    refine wpAnyH_done (by kernel_rfl) ?_ _
    refine NoPanic.normal ?_
    go_wp2
    go_ret
    exact ⟨by rw [R.out]; rfl, S.frame⟩
  | true =>
    have R := Lib.hid (show hasSt s ⟨(k : Int) + 1, kd, fr, ds, sm, tl, vr⟩ = l by rw [R0.out, HS.out, o2]; rfl)
    have O2 := Lib.hid o2
    clear o2
    go_enter Try.func155, Try.ntmps155
    go_wp2_with (first
      | (go_at_call 68; (with_reducible refine (StateOk_r _ s _ (FN.out _ S.frame) O1.out).mono ?_); rintro e w9 ⟨rfl, f9⟩; replace S := S.fr f9; clear f9)
      | ((with_reducible refine gate_box rfl ?_); refine aBx S ?_; clear S; intro g9 w9 z9 S) | ((with_reducible refine gate_load rfl ?_); first | refine aLd S ?_ | refine aPt S ?_ | refine aL1 S ?_))
    have S0 := S
    refine wp_region_noPanic ?_
    refine wp_region_held_drew (S := Sep _ _ _) (by kernel_rfl) S0.drew (fun _ => ?_)
    replace S := S.drew
    clear S0
    refine tk 0 ?_
    (try simp only [Act.put, List.setIfInBounds_toArray, List.set_cons_zero, List.set_cons_succ])
    refine tk 1 ?_
    (try simp only [Act.put, List.setIfInBounds_toArray, List.set_cons_zero, List.set_cons_succ])
    refine tk 2 ?_
    (try simp only [Act.put, List.setIfInBounds_toArray, List.set_cons_zero, List.set_cons_succ])
    refine tk 3 ?_
    (try simp only [Act.put, List.setIfInBounds_toArray, List.set_cons_zero, List.set_cons_succ])
    refine tk 4 ?_
    (try simp only [Act.put, List.setIfInBounds_toArray, List.set_cons_zero, List.set_cons_succ])
    refine tk 5 ?_
    (try simp only [Act.put, List.setIfInBounds_toArray, List.set_cons_zero, List.set_cons_succ])
    refine tk 6 ?_ (hy := by first | (refine' yields_pkld (p := x) ?ta 88 _ ?tb ?tc ?td _ ?te ?tf ?tg; (case ta => rfl); (case tb => rfl); (case tc => rfl); (case td => exact fun W hW => G1.out.fr hW.frame); (case te => exact Try.underlying88); (case tf => rfl); (case tg => exact ts88)) | (refine Or.inr ⟨by rfl, ?_⟩; rfl))
    (try simp only [Act.put, List.setIfInBounds_toArray, List.set_cons_zero, List.set_cons_succ])
    refine tk 7 ?_
    (try simp only [Act.put, List.setIfInBounds_toArray, List.set_cons_zero, List.set_cons_succ])
    refine tk 8 ?_ (hy := by first | (refine' yields_eqpk ?ta _ _ _ ?tb x ⟨(k : Int) + 1, kd, fr, ds, sm, tl, vr⟩ ?tc ?td O2.out; (case ta => rfl); (case tb => rfl); (case tc => rfl); (case td => rfl)) | (refine Or.inr ⟨by rfl, ?_⟩; rfl))
    (try simp only [Act.put, List.setIfInBounds_toArray, List.set_cons_zero, List.set_cons_succ])
    refine tk 9 ?_
    (try simp only [Act.put, List.setIfInBounds_toArray, List.set_cons_zero, List.set_cons_succ])
    refine tk 10 ?_
    (try simp only [Act.put, List.setIfInBounds_toArray, List.set_cons_zero, List.set_cons_succ])
    refine tk 11 ?_
    (try simp only [Act.put, List.setIfInBounds_toArray, List.set_cons_zero, List.set_cons_succ])
    refine tk 12 ?_
    (try simp only [Act.put, List.setIfInBounds_toArray, List.set_cons_zero, List.set_cons_succ])
    refine tk 13 ?_
    (try simp only [Act.put, List.setIfInBounds_toArray, List.set_cons_zero, List.set_cons_succ])
    refine tk 14 ?_
    (try simp only [Act.put, List.setIfInBounds_toArray, List.set_cons_zero, List.set_cons_succ])
    refine tk 15 ?_
    (try simp only [Act.put, List.setIfInBounds_toArray, List.set_cons_zero, List.set_cons_succ])
    refine tk 16 ?_ (hy := by first | (refine' yields_cell (v := .bool true) ?ta 4 _ ?tb ?tc ?td _ ?te ?tf; (case ta => rfl); (case tb => rfl); (case tc => rfl); (case td => exact fun W hW => hW.frame.cell G2.out); (case te => exact Try.underlying4); (case tf => rfl)) | (refine' yields_cell (v := .bool false) ?ta 4 _ ?tb ?tc ?td _ ?te ?tf; (case ta => rfl); (case tb => rfl); (case tc => rfl); (case td => exact fun W hW => hW.frame.cell G2.out); (case te => exact Try.underlying4); (case tf => rfl)) | (refine' yields_cell (v := .bool l) ?ta 4 _ ?tb ?tc ?td _ ?te ?tf; (case ta => rfl); (case tb => rfl); (case tc => rfl); (case td => exact fun W hW => hW.frame.cell G2.out); (case te => exact Try.underlying4); (case tf => rfl)) | (refine Or.inr ⟨by rfl, ?_⟩; rfl))
    (try simp only [Act.put, List.setIfInBounds_toArray, List.set_cons_zero, List.set_cons_succ])
    refine tk 17 ?_
    (try simp only [Act.put, List.setIfInBounds_toArray, List.set_cons_zero, List.set_cons_succ])
    refine tk 18 ?_
    (try simp only [Act.put, List.setIfInBounds_toArray, List.set_cons_zero, List.set_cons_succ])
    refine wpAnyH_done (by kernel_rfl) ?_ _
    refine NoPanic.normal ?_
    go_wp2
    go_ret
    exact ⟨by rw [R.out]; rfl, S.frame⟩
set_option maxRecDepth 100000 in
set_option maxHeartbeats 3200000 in
theorem l3Has_c (w : World) (s : St) (c0 : List Value) (h1 : tSt.rd w s c0) (p : Pk) (o1 : okSt s = true) : Calls Try.prog 141 #[.agg c0.toArray, .agg #[.int .i64 p.seq, .int .i64 p.kind, .int .i64 p.frm, .int .i64 p.dst, .int .i64 p.sum, .int .i64 p.til, .int .i64 p.ver]] w (Ret (.bool (hasL s p)) w) := by
  have Q := Lib.hid h1
  obtain ⟨v1, v2, v3, v4, rfl, h11, h12, h13, h14, h15⟩ := h1
  obtain ⟨A1, c1, rfl⟩ := h11.val
  obtain ⟨A2, c2, rfl⟩ := h12.val
  obtain ⟨A3, c3, rfl⟩ := h13.val
  obtain ⟨A4, c4, rfl⟩ := h14.val
  have FIN := Lib.hid (fun (W : World) (f : Fr w W) => tSt.fr f Q.out)
  have S := Sep.start w
  clear h15
  obtain ⟨sq, kd, fr, ds, sm, tl, vr⟩ := p
  dsimp only
  have LN := Lib.hid (okSt_len o1)
  clear o1
  by_cases n1 : 1 ≤ sq ∧ sq ≤ s.sent.length
  case neg =>
    have N1 := Lib.hid (show decide (1 ≤ sq ∧ sq ≤ (s.sent.length : Int)) = false from decide_eq_false n1)
    have R := Lib.hid (show hasL s ⟨sq, kd, fr, ds, sm, tl, vr⟩ = false by unfold hasL; rw [decide_eq_false (by simp only []; exact n1)]; rfl)
    clear n1 FIN
    go_enter Try.func141, Try.ntmps141
    go_wp2_with (first
      | ((with_reducible refine gate_box rfl ?_); refine aBx S ?_; clear S; intro g9 w9 z9 S) | ((with_reducible refine gate_load rfl ?_); first | refine aLd S ?_ | refine aPt S ?_ | refine aL1 S ?_))
    have S0 := S
    refine wp_region_noPanic ?_
    refine wp_region_held_drew (S := Sep _ _ _) (by kernel_rfl) S0.drew (fun _ => ?_)
    replace S := S.drew
    clear S0
    refine tk 0 ?_
    (try simp only [Act.put, List.setIfInBounds_toArray, List.set_cons_zero, List.set_cons_succ])
    refine tk 1 ?_
    (try simp only [Act.put, List.setIfInBounds_toArray, List.set_cons_zero, List.set_cons_succ])
    refine tk 2 ?_
    (try simp only [Act.put, List.setIfInBounds_toArray, List.set_cons_zero, List.set_cons_succ])
    refine tk 3 ?_
    (try simp only [Act.put, List.setIfInBounds_toArray, List.set_cons_zero, List.set_cons_succ])
    refine rdy1 4 (fun K hK => ?_)
    go_simp
    (first | refine hK.out _ _ (S.sub subA) (fun _ => ?_) | (go_wp2_with fail; refine hK.out _ _ (S.sub subA) (fun _ => ?_)))
    clear hK K
    (try simp only [Act.put, List.setIfInBounds_toArray, List.set_cons_zero, List.set_cons_succ])
    refine rdy1 5 (fun K hK => ?_)
    go_simp; (skip; go_at_call 61; (with_reducible refine (l6In_e _ sq 1 s.sent.length N1.out).mono ?_); rintro e w9 ⟨rfl, rfl⟩)
    (first | refine hK.out _ _ (S.sub subA) (fun _ => ?_) | (go_wp2_with fail; refine hK.out _ _ (S.sub subA) (fun _ => ?_)))
    clear hK K
    (try simp only [Act.put, List.setIfInBounds_toArray, List.set_cons_zero, List.set_cons_succ])
    refine tk 6 ?_
    (try simp only [Act.put, List.setIfInBounds_toArray, List.set_cons_zero, List.set_cons_succ])
    refine tk 7 ?_
    (try simp only [Act.put, List.setIfInBounds_toArray, List.set_cons_zero, List.set_cons_succ])
    refine tk 8 ?_
    (try simp only [Act.put, List.setIfInBounds_toArray, List.set_cons_zero, List.set_cons_succ])
    refine tk 9 ?_
    (try simp only [Act.put, List.setIfInBounds_toArray, List.set_cons_zero, List.set_cons_succ])
    refine tk 10 ?_
    (try simp only [Act.put, List.setIfInBounds_toArray, List.set_cons_zero, List.set_cons_succ])
    refine tk 11 ?_
    (try simp only [Act.put, List.setIfInBounds_toArray, List.set_cons_zero, List.set_cons_succ])
    refine tk 12 ?_
    (try simp only [Act.put, List.setIfInBounds_toArray, List.set_cons_zero, List.set_cons_succ])
    refine tk 13 ?_ (hy := by (refine Or.inr ⟨by rfl, ?_⟩; rfl))
    (try simp only [Act.put, List.setIfInBounds_toArray, List.set_cons_zero, List.set_cons_succ])
    refine tk 14 ?_
    (try simp only [Act.put, List.setIfInBounds_toArray, List.set_cons_zero, List.set_cons_succ])
    refine tk 15 ?_
    (try simp only [Act.put, List.setIfInBounds_toArray, List.set_cons_zero, List.set_cons_succ])
    refine tk 16 ?_
    (try simp only [Act.put, List.setIfInBounds_toArray, List.set_cons_zero, List.set_cons_succ])
    refine tk 17 ?_
    (try simp only [Act.put, List.setIfInBounds_toArray, List.set_cons_zero, List.set_cons_succ])
    refine tk 18 ?_
    (try simp only [Act.put, List.setIfInBounds_toArray, List.set_cons_zero, List.set_cons_succ])
    refine tk 19 ?_
    (try simp only [Act.put, List.setIfInBounds_toArray, List.set_cons_zero, List.set_cons_succ])
    refine tk 20 ?_
    (try simp only [Act.put, List.setIfInBounds_toArray, List.set_cons_zero, List.set_cons_succ])
    refine tk 21 ?_
    (try simp only [Act.put, List.setIfInBounds_toArray, List.set_cons_zero, List.set_cons_succ])
    refine tk 22 ?_
    (try simp only [Act.put, List.setIfInBounds_toArray, List.set_cons_zero, List.set_cons_succ])
    refine tk 23 ?_
    (try simp only [Act.put, List.setIfInBounds_toArray, List.set_cons_zero, List.set_cons_succ])
    refine tk 24 ?_ (hy := by (refine Or.inr ⟨by rfl, ?_⟩; rfl))
    (try simp only [Act.put, List.setIfInBounds_toArray, List.set_cons_zero, List.set_cons_succ])
    refine tk 25 ?_
    (try simp only [Act.put, List.setIfInBounds_toArray, List.set_cons_zero, List.set_cons_succ])
    refine tk 26 ?_
    (try simp only [Act.put, List.setIfInBounds_toArray, List.set_cons_zero, List.set_cons_succ])
    refine wpAnyH_done (by kernel_rfl) ?_ _
    refine NoPanic.normal ?_
    go_wp2
    go_ret
    exact ⟨by rw [R.out]; rfl, S.frame⟩
  obtain ⟨k, rfl⟩ : ∃ k : Nat, sq = (k : Int) + 1 := ⟨(sq - 1).toNat, by omega⟩
  have hk : k < s.sent.length := by omega
  have k2 : k < s.live.length := by rw [LN.out.2.1]; exact hk
  obtain ⟨ad1, rfl, g1⟩ := pkAt_of_row h11 k hk
  obtain ⟨ad2, rfl, g2⟩ := row_bool_at h12 k k2
  have hs := hasL_at hk k2 kd fr ds sm tl vr
  have e2 := LN.out.2.1
  have m8 := LN.out.1
  obtain ⟨L, hL⟩ : ∃ L, s.sent.length = L := ⟨_, rfl⟩
  have FN := Lib.hid (fun (W : World) (f : Fr w W) => FIN.out W f)
  rw [e2, hL] at FN
  rw [e2, hL]
  generalize s.sent[k]'hk = x at *
  generalize s.live[k]'k2 = l at *
  have pw : IntKind.i64.wrap ((k : Int) + 1 - 1) = k := by rw [show (k : Int) + 1 - 1 = k by omega]; exact IntWalk.i64_in _ (by omega)
  have pw2 : IntKind.i64.wrap (k : Int) = k := IntWalk.i64_in _ (by omega)
  have HS := Lib.hid hs
  have G1 := Lib.hid g1
  have G2 := Lib.hid g2
  have p1 : (k : Int) < L := by omega
  have k4 : k < L := by omega
  have N1 := Lib.hid (show decide (1 ≤ (k : Int) + 1 ∧ (k : Int) + 1 ≤ (L : Int)) = true from decide_eq_true (by omega))
  clear n1 hs g1 g2 e2 hk k2 hL LN
  cases o2 : eqPk x ⟨(k : Int) + 1, kd, fr, ds, sm, tl, vr⟩ with
  | false =>
    have R := Lib.hid (show hasL s ⟨(k : Int) + 1, kd, fr, ds, sm, tl, vr⟩ = false by rw [HS.out, o2]; rfl)
    have O2 := Lib.hid o2
    clear o2
    go_enter Try.func141, Try.ntmps141
    go_wp2_with (first
      | ((with_reducible refine gate_box rfl ?_); refine aBx S ?_; clear S; intro g9 w9 z9 S) | ((with_reducible refine gate_load rfl ?_); first | refine aLd S ?_ | refine aPt S ?_ | refine aL1 S ?_))
    have S0 := S
    refine wp_region_noPanic ?_
    refine wp_region_held_drew (S := Sep _ _ _) (by kernel_rfl) S0.drew (fun _ => ?_)
    replace S := S.drew
    clear S0
    refine tk 0 ?_
    (try simp only [Act.put, List.setIfInBounds_toArray, List.set_cons_zero, List.set_cons_succ])
    refine tk 1 ?_
    (try simp only [Act.put, List.setIfInBounds_toArray, List.set_cons_zero, List.set_cons_succ])
    refine tk 2 ?_
    (try simp only [Act.put, List.setIfInBounds_toArray, List.set_cons_zero, List.set_cons_succ])
    refine tk 3 ?_
    (try simp only [Act.put, List.setIfInBounds_toArray, List.set_cons_zero, List.set_cons_succ])
    refine rdy1 4 (fun K hK => ?_)
    go_simp
    (first | refine hK.out _ _ (S.sub subA) (fun _ => ?_) | (go_wp2_with fail; refine hK.out _ _ (S.sub subA) (fun _ => ?_)))
    clear hK K
    (try simp only [Act.put, List.setIfInBounds_toArray, List.set_cons_zero, List.set_cons_succ])
    refine rdy1 5 (fun K hK => ?_)
    go_simp; (skip; go_at_call 61; (with_reducible refine (l6In_e _ ((k : Int) + 1) 1 L N1.out).mono ?_); rintro e w9 ⟨rfl, rfl⟩)
    (first | refine hK.out _ _ (S.sub subA) (fun _ => ?_) | (go_wp2_with fail; refine hK.out _ _ (S.sub subA) (fun _ => ?_)))
    clear hK K
    (try simp only [Act.put, List.setIfInBounds_toArray, List.set_cons_zero, List.set_cons_succ])
    refine tk 6 ?_
    (try simp only [Act.put, List.setIfInBounds_toArray, List.set_cons_zero, List.set_cons_succ])
    refine tk 7 ?_
    (try simp only [Act.put, List.setIfInBounds_toArray, List.set_cons_zero, List.set_cons_succ])
    refine tk 8 ?_
    (try simp only [Act.put, List.setIfInBounds_toArray, List.set_cons_zero, List.set_cons_succ])
    refine tk 9 ?_
    (try simp only [Act.put, List.setIfInBounds_toArray, List.set_cons_zero, List.set_cons_succ])
    refine tk 10 ?_
    (try simp only [Act.put, List.setIfInBounds_toArray, List.set_cons_zero, List.set_cons_succ])
    refine tk 11 ?_
    (try simp only [Act.put, List.setIfInBounds_toArray, List.set_cons_zero, List.set_cons_succ])
    refine tk 12 ?_
    (try simp only [Act.put, List.setIfInBounds_toArray, List.set_cons_zero, List.set_cons_succ])
    refine tk 13 ?_ (hy := by first | (refine' yields_pkld (p := x) ?ta 88 _ ?tb ?tc ?td _ ?te ?tf ?tg; (case ta => rfl); (case tb => rfl); (case tc => rfl); (case td => exact fun W hW => G1.out.fr hW.frame); (case te => exact Try.underlying88); (case tf => rfl); (case tg => exact ts88)) | (refine Or.inr ⟨by rfl, ?_⟩; rfl))
    (try simp only [Act.put, List.setIfInBounds_toArray, List.set_cons_zero, List.set_cons_succ])
    refine tk 14 ?_
    (try simp only [Act.put, List.setIfInBounds_toArray, List.set_cons_zero, List.set_cons_succ])
    refine tk 15 ?_ (hy := by first | (refine' yields_eqpk ?ta _ _ _ ?tb x ⟨(k : Int) + 1, kd, fr, ds, sm, tl, vr⟩ ?tc ?td O2.out; (case ta => rfl); (case tb => rfl); (case tc => rfl); (case td => rfl)) | (refine Or.inr ⟨by rfl, ?_⟩; rfl))
    (try simp only [Act.put, List.setIfInBounds_toArray, List.set_cons_zero, List.set_cons_succ])
    refine tk 16 ?_
    (try simp only [Act.put, List.setIfInBounds_toArray, List.set_cons_zero, List.set_cons_succ])
    refine tk 17 ?_
    (try simp only [Act.put, List.setIfInBounds_toArray, List.set_cons_zero, List.set_cons_succ])
    refine tk 18 ?_
    (try simp only [Act.put, List.setIfInBounds_toArray, List.set_cons_zero, List.set_cons_succ])
    refine tk 19 ?_
    (try simp only [Act.put, List.setIfInBounds_toArray, List.set_cons_zero, List.set_cons_succ])
    refine tk 20 ?_
    (try simp only [Act.put, List.setIfInBounds_toArray, List.set_cons_zero, List.set_cons_succ])
    refine tk 21 ?_
    (try simp only [Act.put, List.setIfInBounds_toArray, List.set_cons_zero, List.set_cons_succ])
    refine tk 22 ?_
    (try simp only [Act.put, List.setIfInBounds_toArray, List.set_cons_zero, List.set_cons_succ])
    refine tk 23 ?_
    (try simp only [Act.put, List.setIfInBounds_toArray, List.set_cons_zero, List.set_cons_succ])
    refine tk 24 ?_ (hy := by first | (refine' yields_cell (v := .bool true) ?ta 4 _ ?tb ?tc ?td _ ?te ?tf; (case ta => rfl); (case tb => rfl); (case tc => rfl); (case td => exact fun W hW => hW.frame.cell G2.out); (case te => exact Try.underlying4); (case tf => rfl)) | (refine' yields_cell (v := .bool false) ?ta 4 _ ?tb ?tc ?td _ ?te ?tf; (case ta => rfl); (case tb => rfl); (case tc => rfl); (case td => exact fun W hW => hW.frame.cell G2.out); (case te => exact Try.underlying4); (case tf => rfl)) | (refine' yields_cell (v := .bool l) ?ta 4 _ ?tb ?tc ?td _ ?te ?tf; (case ta => rfl); (case tb => rfl); (case tc => rfl); (case td => exact fun W hW => hW.frame.cell G2.out); (case te => exact Try.underlying4); (case tf => rfl)) | (refine Or.inr ⟨by rfl, ?_⟩; rfl))
    (try simp only [Act.put, List.setIfInBounds_toArray, List.set_cons_zero, List.set_cons_succ])
    refine tk 25 ?_
    (try simp only [Act.put, List.setIfInBounds_toArray, List.set_cons_zero, List.set_cons_succ])
    refine tk 26 ?_
    (try simp only [Act.put, List.setIfInBounds_toArray, List.set_cons_zero, List.set_cons_succ])
    refine wpAnyH_done (by kernel_rfl) ?_ _
    refine NoPanic.normal ?_
    go_wp2
    go_ret
    exact ⟨by rw [R.out]; rfl, S.frame⟩
  | true =>
    have R := Lib.hid (show hasL s ⟨(k : Int) + 1, kd, fr, ds, sm, tl, vr⟩ = l by rw [HS.out, o2]; rfl)
    have O2 := Lib.hid o2
    clear o2
    go_enter Try.func141, Try.ntmps141
    go_wp2_with (first
      | ((with_reducible refine gate_box rfl ?_); refine aBx S ?_; clear S; intro g9 w9 z9 S) | ((with_reducible refine gate_load rfl ?_); first | refine aLd S ?_ | refine aPt S ?_ | refine aL1 S ?_))
    have S0 := S
    refine wp_region_noPanic ?_
    refine wp_region_held_drew (S := Sep _ _ _) (by kernel_rfl) S0.drew (fun _ => ?_)
    replace S := S.drew
    clear S0
    refine tk 0 ?_
    (try simp only [Act.put, List.setIfInBounds_toArray, List.set_cons_zero, List.set_cons_succ])
    refine tk 1 ?_
    (try simp only [Act.put, List.setIfInBounds_toArray, List.set_cons_zero, List.set_cons_succ])
    refine tk 2 ?_
    (try simp only [Act.put, List.setIfInBounds_toArray, List.set_cons_zero, List.set_cons_succ])
    refine tk 3 ?_
    (try simp only [Act.put, List.setIfInBounds_toArray, List.set_cons_zero, List.set_cons_succ])
    refine rdy1 4 (fun K hK => ?_)
    go_simp
    (first | refine hK.out _ _ (S.sub subA) (fun _ => ?_) | (go_wp2_with fail; refine hK.out _ _ (S.sub subA) (fun _ => ?_)))
    clear hK K
    (try simp only [Act.put, List.setIfInBounds_toArray, List.set_cons_zero, List.set_cons_succ])
    refine rdy1 5 (fun K hK => ?_)
    go_simp; (skip; go_at_call 61; (with_reducible refine (l6In_e _ ((k : Int) + 1) 1 L N1.out).mono ?_); rintro e w9 ⟨rfl, rfl⟩)
    (first | refine hK.out _ _ (S.sub subA) (fun _ => ?_) | (go_wp2_with fail; refine hK.out _ _ (S.sub subA) (fun _ => ?_)))
    clear hK K
    (try simp only [Act.put, List.setIfInBounds_toArray, List.set_cons_zero, List.set_cons_succ])
    refine tk 6 ?_
    (try simp only [Act.put, List.setIfInBounds_toArray, List.set_cons_zero, List.set_cons_succ])
    refine tk 7 ?_
    (try simp only [Act.put, List.setIfInBounds_toArray, List.set_cons_zero, List.set_cons_succ])
    refine tk 8 ?_
    (try simp only [Act.put, List.setIfInBounds_toArray, List.set_cons_zero, List.set_cons_succ])
    refine tk 9 ?_
    (try simp only [Act.put, List.setIfInBounds_toArray, List.set_cons_zero, List.set_cons_succ])
    refine tk 10 ?_
    (try simp only [Act.put, List.setIfInBounds_toArray, List.set_cons_zero, List.set_cons_succ])
    refine tk 11 ?_
    (try simp only [Act.put, List.setIfInBounds_toArray, List.set_cons_zero, List.set_cons_succ])
    refine tk 12 ?_
    (try simp only [Act.put, List.setIfInBounds_toArray, List.set_cons_zero, List.set_cons_succ])
    refine tk 13 ?_ (hy := by first | (refine' yields_pkld (p := x) ?ta 88 _ ?tb ?tc ?td _ ?te ?tf ?tg; (case ta => rfl); (case tb => rfl); (case tc => rfl); (case td => exact fun W hW => G1.out.fr hW.frame); (case te => exact Try.underlying88); (case tf => rfl); (case tg => exact ts88)) | (refine Or.inr ⟨by rfl, ?_⟩; rfl))
    (try simp only [Act.put, List.setIfInBounds_toArray, List.set_cons_zero, List.set_cons_succ])
    refine tk 14 ?_
    (try simp only [Act.put, List.setIfInBounds_toArray, List.set_cons_zero, List.set_cons_succ])
    refine tk 15 ?_ (hy := by first | (refine' yields_eqpk ?ta _ _ _ ?tb x ⟨(k : Int) + 1, kd, fr, ds, sm, tl, vr⟩ ?tc ?td O2.out; (case ta => rfl); (case tb => rfl); (case tc => rfl); (case td => rfl)) | (refine Or.inr ⟨by rfl, ?_⟩; rfl))
    (try simp only [Act.put, List.setIfInBounds_toArray, List.set_cons_zero, List.set_cons_succ])
    refine tk 16 ?_
    (try simp only [Act.put, List.setIfInBounds_toArray, List.set_cons_zero, List.set_cons_succ])
    refine tk 17 ?_
    (try simp only [Act.put, List.setIfInBounds_toArray, List.set_cons_zero, List.set_cons_succ])
    refine tk 18 ?_
    (try simp only [Act.put, List.setIfInBounds_toArray, List.set_cons_zero, List.set_cons_succ])
    refine tk 19 ?_
    (try simp only [Act.put, List.setIfInBounds_toArray, List.set_cons_zero, List.set_cons_succ])
    refine tk 20 ?_
    (try simp only [Act.put, List.setIfInBounds_toArray, List.set_cons_zero, List.set_cons_succ])
    refine tk 21 ?_
    (try simp only [Act.put, List.setIfInBounds_toArray, List.set_cons_zero, List.set_cons_succ])
    refine tk 22 ?_
    (try simp only [Act.put, List.setIfInBounds_toArray, List.set_cons_zero, List.set_cons_succ])
    refine tk 23 ?_
    (try simp only [Act.put, List.setIfInBounds_toArray, List.set_cons_zero, List.set_cons_succ])
    refine tk 24 ?_ (hy := by first | (refine' yields_cell (v := .bool true) ?ta 4 _ ?tb ?tc ?td _ ?te ?tf; (case ta => rfl); (case tb => rfl); (case tc => rfl); (case td => exact fun W hW => hW.frame.cell G2.out); (case te => exact Try.underlying4); (case tf => rfl)) | (refine' yields_cell (v := .bool false) ?ta 4 _ ?tb ?tc ?td _ ?te ?tf; (case ta => rfl); (case tb => rfl); (case tc => rfl); (case td => exact fun W hW => hW.frame.cell G2.out); (case te => exact Try.underlying4); (case tf => rfl)) | (refine' yields_cell (v := .bool l) ?ta 4 _ ?tb ?tc ?td _ ?te ?tf; (case ta => rfl); (case tb => rfl); (case tc => rfl); (case td => exact fun W hW => hW.frame.cell G2.out); (case te => exact Try.underlying4); (case tf => rfl)) | (refine Or.inr ⟨by rfl, ?_⟩; rfl))
    (try simp only [Act.put, List.setIfInBounds_toArray, List.set_cons_zero, List.set_cons_succ])
    refine tk 25 ?_
    (try simp only [Act.put, List.setIfInBounds_toArray, List.set_cons_zero, List.set_cons_succ])
    refine tk 26 ?_
    (try simp only [Act.put, List.setIfInBounds_toArray, List.set_cons_zero, List.set_cons_succ])
    refine wpAnyH_done (by kernel_rfl) ?_ _
    refine NoPanic.normal ?_
    go_wp2
    go_ret
    exact ⟨by rw [R.out]; rfl, S.frame⟩
end Go.Proofs.Ytapdcgjccckjeaa
namespace Go.Proofs.Ytapdcgjccckjeaa
set_option maxRecDepth 100000
set_option linter.unusedVariables false
set_option linter.unusedSimpArgs false
open Go.RowKit
theorem set_take_drop {α : Type} (xs : List α) (k : Nat) (x : α) (h : k < xs.length) : xs.take k ++ x :: xs.drop (k + 1) = xs.set k x := by
  rw [List.set_eq_take_append_cons_drop, if_pos h]
section
variable {α : Type} {d : Ty α} {ops : Array Oper} {rest : List Oper} {o : Oper} {a : Act} {Q : Exit → Act → World → Prop} {W w0 : World} {F0 : List Nat} {L L' : List Asrt}
theorem aElP {xs : List α} {x : α} {cs : List Value} {F : List Nat} {e ty n cap g k m q : Nat} {b : Bool} {x' y' : Operand} (S : Sep F0 w0 L W) (p : Del L (aRow d e xs (.slice (some ⟨g, 0, none⟩) n cap) F) L') (hown : ∀ w, d.own w x cs []) (hk : k < xs.length)
    (h : ∀ F' w1, Sep F0 w0 (aRow d e (xs.set k x) (.slice (some ⟨g, 0, none⟩) n cap) F' :: L') w1 → wpList Try.prog ops Q rest (a.put o.dst undef) w1)
    (hw : Region.wanted o (yielded ops a.tmps) = true := by exact rfl) (ho : o.op = .store ty x' y' := by exact rfl) (hi : TyInf ty b m := by exact inferInstance) (hm : m = d.sz := by exact rfl) (hx : a.eval x' = .pointer (some ⟨g, q, none⟩) := by exact rfl) (hq : q = k * m := by first | exact rfl | assumption | omega) (hy : (a.eval y').cells = cs.toArray := by exact rfl) : wpList Try.prog ops Q (o :: rest) a W := by
  have e1 : xs = xs.take k ++ xs[k] :: xs.drop (k + 1) := by rw [set_take_drop xs k _ hk]; exact (List.set_getElem_self hk).symm
  have S1 := S.pull p
  have S2 : Sep F0 w0 (aRow d e (xs.take k ++ xs[k] :: xs.drop (k + 1)) (.slice (some ⟨g, 0, none⟩) n cap) F :: L') W := by rw [← e1]; exact S1
  have S3 := S2.new (aOwn d x cs []) (hown W) (by simp [aOwn]) (fun q hq => by cases hq) (Fr.refl _)
  refine aEl (A := xs.take k) (x0 := xs[k]) (B := xs.drop (k + 1)) (x := x) (cs := cs) (Fx := []) (k := k) (m := m) (q := q) S3 (.tail _ (.head _ _)) (.head _ _) (by simp; omega) (fun F' w1 S4 => ?_) hw ho hi hm hx hq hy
  rw [set_take_drop xs k x hk] at S4
  exact h F' w1 S4
end
/-- Is there room? (the packet's coins go back) -/
def paidBk (b : Bk) (p : Pk) : Bk := if bkMay b p.kind p.sum = true then backBk b p.kind p.frm p.sum else b
def settleCh (c : Ch) (m : Nat) (p : Pk) (back : Bool) : Ch :=
  ⟨c.id, if back then paidBk c.bank p else c.bank, ⟨c.st.way, c.st.vsn, c.st.want, c.st.sent, c.st.live.set m false, if back then c.st.back.set m true else c.st.back, c.st.got⟩, c.past, c.knows⟩
end Go.Proofs.Ytapdcgjccckjeaa
namespace Go.Proofs.Ytapdcgjccckjeaa
set_option maxRecDepth 100000
set_option linter.unusedVariables false
set_option linter.unusedSimpArgs false
open Go.RowKit
theorem sent_okPk {s : St} (h : okSt s = true) (k : Nat) (hk : k < s.sent.length) : okPk s.sent[k] = true := by
  have h1 : sentOk s = true := by
    unfold okSt at h
    simp only [Bool.and_eq_true] at h
    exact h.1.2
  unfold sentOk at h1
  simp only [Bool.and_eq_true] at h1
  have h2 := List.all_eq_true.1 h1.2 k (List.mem_range.2 hk)
  unfold pksOk pkAtOk at h2
  simp only [Bool.and_eq_true] at h2
  have h3 := h2.1.1.1
  rwa [List.getD_eq_getElem?_getD, List.getElem?_eq_getElem hk] at h3
theorem l1Back_x (w : World) (b : Bk) (p : Pk) (cs : List Value) (F : List Nat) (h : tBk.own w b cs F ∧ F.Nodup) (hok : okBk b = true) (hk : 1 ≤ p.kind ∧ p.kind ≤ 2) (hf : 1 ≤ p.frm ∧ p.frm ≤ 3) (hs : 1 ≤ p.sum ∧ p.sum ≤ 9) {x : Bk} {r : Bool} (hx : paidBk b p = x) (hr : bkMay b p.kind p.sum = r) :
    Calls Try.prog 151 #[.agg cs.toArray, .int .i64 p.kind, .int .i64 p.frm, .int .i64 p.sum] w (RetIn tBk x r F w) := by
  have := l1Back_c w b cs F h.1 h.2 hok p.kind p.frm p.sum hk hf (by omega) (by omega)
  rw [← hx, ← hr]
  exact this
theorem el1_bool (b : Bool) : ∀ w, tBool.own w b [.bool b] [] := fun w => tBool_plain (w := w) rfl w
set_option maxHeartbeats 6400000 in
theorem l13Settle_c (w : World) (c : Ch) (c1 : List Value) (F : List Nat) (h : (aOwn tCh c c1 F).ok w ∧ F.Nodup) (hc : okCh c = true) (m : Nat) (hm : m < c.st.sent.length) (p : Pk) (hp : c.st.sent[m] = p) (back : Bool) :
    Calls Try.prog 135 #[.agg c1.toArray, .int .i64 ((m : Int) + 1), .bool back] w fun e w' => ∃ cs F', e = .returned (.agg cs.toArray) ∧ Sep F w [aOwn tCh (settleCh c m p back) cs F'] w' := by
  have S := Sep.startCh h
  obtain ⟨b1, b2, s1, s2, s3, s4, A1, n1, A2, n2, F1, F2, F3, F4, rfl, rfl, h15, S9⟩ := S.openCh
  replace S := S9
  clear S9 h
  obtain ⟨B1, k1, B2, k2, e1⟩ := S.shapeBk List.mem_cons_self
  simp only [List.cons.injEq, and_true, true_and] at e1
  obtain ⟨rfl, rfl⟩ := e1
  obtain ⟨q1, q2, q3, q4, q5, q6⟩ := okCh_parts hc
  have ll := okSt_len q3
  have HB := Lib.hid q2
  have OP := sent_okPk q3 m hm
  rw [hp] at OP
  obtain ⟨z1, z2, z3⟩ := okPk_bd OP
  have ZK := Lib.hid z1
  have ZF := Lib.hid z2
  have ZS := Lib.hid z3
  replace S := S.pull (a := aOwn tSt c.st _ F2) delA
  obtain ⟨B6, m6, B7, m7, B8, m8, B9, m9, Y6, Y7, Y8, Y9, e1, rfl, J9, S9⟩ := S.openSt
  simp only [List.cons.injEq, and_true, true_and] at e1
  obtain ⟨rfl, rfl, rfl, rfl⟩ := e1
  replace S := S9
  clear S9
  obtain ⟨g6, r6, e6⟩ := (S.row (d := tPk) (xs := c.st.sent) (F := Y6) (e := 88) memA).shape (by omega)
  obtain ⟨g7, r7, e7⟩ := (S.row (d := tBool) (xs := c.st.live) (F := Y7) (e := 4) memA).shape (by omega)
  obtain ⟨g8, r8, e8⟩ := (S.row (d := tBool) (xs := c.st.back) (F := Y8) (e := 4) memA).shape (by omega)
  simp only [Value.slice.injEq, true_and] at e6 e7 e8
  obtain ⟨rfl, rfl⟩ := e6
  obtain ⟨rfl, rfl⟩ := e7
  obtain ⟨rfl, rfl⟩ := e8
  have HM := Lib.hid hm
  have HP := Lib.hid (show c.st.sent[m]'HM.out = p from hp)
  have M7 := Lib.hid (show m < c.st.live.length by omega)
  have M8 := Lib.hid (show m < c.st.back.length by omega)
  have L7 := Lib.hid (show (c.st.live.set m false).length = c.st.live.length by simp)
  have L8 := Lib.hid (show (c.st.back.set m true).length = c.st.back.length by simp)
  have p0 : (0 : Int) ≤ (m : Int) := Int.natCast_nonneg _
  have p1 : (m : Int) < (c.st.sent.length : Int) := by omega
  have p2 : (m : Int) < (c.st.live.length : Int) := by omega
  have p3 : (m : Int) < (c.st.back.length : Int) := by omega
  have w1 : IntKind.i64.wrap ((m : Int) + 1 - 1) = (m : Int) := by rw [Int.add_sub_cancel]; exact IntWalk.i64_in _ (by omega)
  have w2 : IntKind.i64.wrap (m : Int) = (m : Int) := IntWalk.i64_in _ (by omega)
  clear hc q1 q2 q3 q4 q5 q6 hp OP z1 z2 z3 ll hm
  obtain ⟨x, hx⟩ : ∃ x, paidBk c.bank p = x := ⟨_, rfl⟩
  obtain ⟨r, hr⟩ : ∃ r, bkMay c.bank p.kind p.sum = r := ⟨_, rfl⟩
  have HX := Lib.hid hx
  have HR := Lib.hid hr
  have ST := Lib.hid (show settleCh c m p true = ⟨c.id, x, ⟨c.st.way, c.st.vsn, c.st.want, c.st.sent, c.st.live.set m false, c.st.back.set m true, c.st.got⟩, c.past, c.knows⟩ by rw [← hx]; rfl)
  clear hx hr
  cases back with
  | false =>
    go_enter Try.func135, Try.ntmps135
    go_wp2_with (first
      | ((with_reducible refine gate_dst (N := 16) rfl ?_); go_loud (obtain ⟨ad16, cs16, e16, r16, g16⟩ := cellsAt_of_row (S.row (d := tPk) (xs := c.st.sent) (F := Y6) (e := 88) memA).row m HM.out; cases e16; rw [HP.out] at r16; cases tPk_cells r16; refine aRw (ad := ⟨g6, m * 7, none⟩) (cs := [.int .i64 p.seq, .int .i64 p.kind, .int .i64 p.frm, .int .i64 p.dst, .int .i64 p.sum, .int .i64 p.til, .int .i64 p.ver]) (by simpa [tPk, addr_add, Pk.cells] using g16) ?_))
      | ((with_reducible refine gate_store (p := 22) rfl ?_); go_loud (refine aElP (d := tBool) (xs := c.st.live) (x := false) (k := m) S delA (el1_bool false) M7.out ?_); clear S; intro G7 w9 S)
      | ((with_reducible refine gate_box rfl ?_); refine aBx S ?_; clear S; intro g9 w9 z9 S) | ((with_reducible refine gate_alloc rfl ?_); refine aAl S ?_; clear S; intro g9 w9 z9 S) | ((with_reducible refine gate_load rfl ?_); first | refine aLd S ?_ | refine aPt S ?_ | refine aL1 S ?_) | ((with_reducible refine gate_st rfl ?_); (first | refine aS1 S ?_ | refine aSt S ?_ | refine aSp S ?_); clear S; intro w9 S))
    have S := S.pull (a := aOwn tBk c.bank _ F1) delA
    obtain ⟨x1, x2, Y1, Y2, e1, rfl, I9, S9⟩ := S.openBk
    replace S := S9
    clear S9
    simp only [List.cons.injEq, and_true] at e1
    obtain ⟨rfl, rfl⟩ := e1
    have S := S.allCh ⟨c.id, c.bank, ⟨c.st.way, c.st.vsn, c.st.want, c.st.sent, c.st.live.set m false, c.st.back, c.st.got⟩, c.past, c.knows⟩ I9 J9 h15
    (refine Sep.ret1 S rfl rfl memA Try.underlying33 rfl ts33 rfl ?_)
    exact ⟨_, _, rfl, S.left [_]⟩
  | true =>
    go_enter Try.func135, Try.ntmps135
    go_wp2_with (first
      | ((with_reducible refine gate_dst (N := 16) rfl ?_); go_loud (obtain ⟨ad16, cs16, e16, r16, g16⟩ := cellsAt_of_row (S.row (d := tPk) (xs := c.st.sent) (F := Y6) (e := 88) memA).row m HM.out; cases e16; rw [HP.out] at r16; cases tPk_cells r16; refine aRw (ad := ⟨g6, m * 7, none⟩) (cs := [.int .i64 p.seq, .int .i64 p.kind, .int .i64 p.frm, .int .i64 p.dst, .int .i64 p.sum, .int .i64 p.til, .int .i64 p.ver]) (by simpa [tPk, addr_add, Pk.cells] using g16) ?_))
      | ((with_reducible refine gate_store (p := 22) rfl ?_); go_loud (refine aElP (d := tBool) (xs := c.st.live) (x := false) (k := m) S delA (el1_bool false) M7.out ?_); clear S; intro G7 w9 S)
      | ((with_reducible refine gate_store (p := 43) rfl ?_); go_loud (refine aElP (d := tBool) (xs := c.st.back) (x := true) (k := m) S delA (el1_bool true) M8.out ?_); clear S; intro G8 w9 S)
      | (go_at_call 151; go_loud ((with_reducible refine (l1Back_x _ c.bank p _ F1 (S.both memA) HB.out ZK.out ZF.out ZS.out HX.out HR.out).mono ?_); rintro e w9 ⟨cs9, rfl, h9, c9⟩; replace S := S.putOwn putA h9 c9; clear h9 c9; replace S := S.pull (a := aOwn tBk x _ F1) delA; obtain ⟨x1, x2, Y1, Y2, rfl, rfl, I9, S9⟩ := S.openBk; replace S := S9; clear S9))
      | ((with_reducible refine gate_box rfl ?_); refine aBx S ?_; clear S; intro g9 w9 z9 S) | ((with_reducible refine gate_alloc rfl ?_); refine aAl S ?_; clear S; intro g9 w9 z9 S) | ((with_reducible refine gate_load rfl ?_); first | refine aLd S ?_ | refine aPt S ?_ | refine aL1 S ?_) | ((with_reducible refine gate_st rfl ?_); (first | refine aS1 S ?_ | refine aSt S ?_ | refine aSp S ?_); clear S; intro w9 S))
    have S := S.allCh ⟨c.id, x, ⟨c.st.way, c.st.vsn, c.st.want, c.st.sent, c.st.live.set m false, c.st.back.set m true, c.st.got⟩, c.past, c.knows⟩ I9 J9 h15
    (refine Sep.ret1 S rfl rfl memA Try.underlying33 rfl ts33 rfl ?_)
    rw [ST.out]
    exact ⟨_, _, rfl, S.left [_]⟩
end Go.Proofs.Ytapdcgjccckjeaa
namespace Go.Proofs.Ytapdcgjccckjeaa
set_option maxRecDepth 100000
set_option linter.unusedVariables false
set_option linter.unusedSimpArgs false
open Go.RowKit
def mineV (c : Ch) (n : Int) : Bool := decide (1 ≤ n ∧ n ≤ c.st.sent.length) && c.st.live.getD (n - 1).toNat false
theorem mineV_at {c : Ch} {m : Nat} (h : m < c.st.sent.length) (h2 : m < c.st.live.length) : mineV c ((m : Int) + 1) = c.st.live[m] := by
  unfold mineV
  rw [decide_eq_true (by omega), Bool.true_and, show ((m : Int) + 1 - 1).toNat = m by omega]
  simp [h2]
theorem mineV_out {c : Ch} {n : Int} (h : ¬ (1 ≤ n ∧ n ≤ c.st.sent.length)) : mineV c n = false := by
  unfold mineV
  rw [decide_eq_false h, Bool.false_and]
set_option maxHeartbeats 3200000 in
theorem l13Mine_c (w : World) (c : Ch) (c1 : List Value) (h1 : tCh.rd w c c1) (hc : okCh c = true) (n : Int) {r : Bool} (hr : mineV c n = r) : Calls Try.prog 134 #[.agg c1.toArray, .int .i64 n] w (Ret (.bool r) w) := by
  obtain ⟨b1, b2, s1, s2, s3, s4, v1, v2, rfl, h11, h12, h13, h14, h15⟩ := h1
  obtain ⟨j1, j2, j3, j4, _⟩ := tSt_rows h12
  obtain ⟨A1, n1, rfl⟩ := j1.val
  obtain ⟨A2, n2, rfl⟩ := j2.val
  have ll := okSt_len (okCh_parts hc).2.2.1
  have S := Sep.start w
  by_cases e1 : 1 ≤ n ∧ n ≤ (c.st.sent.length : Int)
  case neg =>
    have HI := Lib.hid (decide_eq_false e1)
    have R := Lib.hid ((mineV_out e1).symm.trans hr)
    clear e1 hr hc ll
    go_enter Try.func134, Try.ntmps134
    go_wp2_with (first
      | (go_at_call 61; (with_reducible refine (l6In_e _ n 1 _ HI.out).mono ?_); rintro e w9 ⟨rfl, rfl⟩)
      | ((with_reducible refine gate_box rfl ?_); refine aBx S ?_; clear S; intro g9 w9 z9 S) | ((with_reducible refine gate_alloc rfl ?_); refine aAl S ?_; clear S; intro g9 w9 z9 S) | ((with_reducible refine gate_load rfl ?_); first | refine aLd S ?_ | refine aPt S ?_ | refine aL1 S ?_) | ((with_reducible refine gate_st rfl ?_); (first | refine aS1 S ?_ | refine aSt S ?_ | refine aSp S ?_); clear S; intro w9 S))
    go_ret
    exact ⟨ret_bool R.out, S.frame⟩
  obtain ⟨m, rfl⟩ : ∃ m : Nat, n = (m : Int) + 1 := ⟨(n - 1).toNat, by omega⟩
  have hm : m < c.st.sent.length := by omega
  have hm2 : m < c.st.live.length := by omega
  have R := Lib.hid ((mineV_at hm hm2).symm.trans hr)
  obtain ⟨ad, rfl, g9⟩ := row_bool_at j2 m hm2
  have G1 := Lib.hid g9
  have HI := Lib.hid (decide_eq_true e1)
  have p0 : (0 : Int) ≤ (m : Int) := Int.natCast_nonneg _
  have p2 : (m : Int) < (c.st.live.length : Int) := by omega
  have w1 : IntKind.i64.wrap ((m : Int) + 1 - 1) = (m : Int) := by rw [Int.add_sub_cancel]; exact IntWalk.i64_in _ (by omega)
  have w2 : IntKind.i64.wrap (m : Int) = (m : Int) := IntWalk.i64_in _ (by omega)
  clear e1 hr hc ll g9 hm
  go_enter Try.func134, Try.ntmps134
  go_wp2_with (first
    | (go_at_call 61; (with_reducible refine (l6In_e _ ((m : Int) + 1) 1 _ HI.out).mono ?_); rintro e w9 ⟨rfl, rfl⟩)
    | ((with_reducible refine gate_dst (N := 18) rfl ?_); go_loud (refine aRc (S.frame.cell G1.out) ?_))
    | ((with_reducible refine gate_box rfl ?_); refine aBx S ?_; clear S; intro g9 w9 z9 S) | ((with_reducible refine gate_alloc rfl ?_); refine aAl S ?_; clear S; intro g9 w9 z9 S) | ((with_reducible refine gate_load rfl ?_); first | refine aLd S ?_ | refine aPt S ?_ | refine aL1 S ?_) | ((with_reducible refine gate_st rfl ?_); (first | refine aS1 S ?_ | refine aSt S ?_ | refine aSp S ?_); clear S; intro w9 S))
  go_ret
  exact ⟨ret_bool R.out, S.frame⟩
end Go.Proofs.Ytapdcgjccckjeaa
namespace Go.Proofs.Ytapdcgjccckjeaa
set_option maxRecDepth 100000
set_option linter.unusedVariables false
set_option linter.unusedSimpArgs false
open Go.RowKit
def pkAt (c : Ch) (n : Int) : Pk := c.st.sent.getD (n - 1).toNat zPk
def lateOk (c : Ch) (s : St) (h n : Int) : Bool := mineV c n && (decide ((pkAt c n).til ≤ h) && decide (s.got.getD (n - 1).toNat 0 = 0))
def lateC (c : Ch) (s : St) (h n : Int) : Ch := if lateOk c s h n = true then settleCh c (n - 1).toNat (pkAt c n) true else c
theorem mineV_in {c : Ch} {n : Int} (h : mineV c n = true) : 1 ≤ n ∧ n ≤ c.st.sent.length := by
  unfold mineV at h
  rw [Bool.and_eq_true] at h
  exact of_decide_eq_true h.1
theorem chSent_at {W : World} {c : Ch} {b1 b2 s2 s3 s4 v1 v2 : Value} {ad : Addr} {k n : Nat} (h : tCh.rd W c [.int .i64 c.id, b1, b2, .int .i64 c.bank.locked, .int .i64 c.st.way, .int .i64 c.st.vsn, .int .i64 c.st.want, .slice (some ad) n k, s2, s3, s4, v1, v2]) (m : Nat) (hm : m < c.st.sent.length) {p : Pk} (hp : c.st.sent[m] = p) : W.cell? ((ad.add (m * 7)).add 5) = some (.int .i64 p.til) := by
  obtain ⟨_, _, _, _, _, _, _, _, e, _, h2, _⟩ := h
  simp only [List.cons.injEq, and_true, true_and] at e
  obtain ⟨rfl, rfl, rfl, rfl, rfl, rfl, rfl, rfl⟩ := e
  obtain ⟨a9, cs, e9, r9, g9⟩ := cellsAt_of_row (tSt_rows h2).1 m hm
  cases e9
  rw [hp] at r9
  cases tPk_cells r9
  exact g9.at_ 5 rfl
set_option maxHeartbeats 6400000 in
theorem l13Late_c (w0 w : World) (L : List Asrt) (c : Ch) (c1 : List Value) (F : List Nat) (S : Sep [] w0 (aOwn tCh c c1 F :: L) w) (hc : okCh c = true) (s : St) (c2 : List Value) (h2 : tSt.rd w0 s c2) (hs : okSt s = true) (h n : Int) (bn : I64 n) :
    Calls Try.prog 110 #[.agg c1.toArray, .agg c2.toArray, .int .i64 h, .int .i64 n] w fun e w' => ∃ cs F', e = .returned (.tuple #[.agg cs.toArray, .bool (lateOk c s h n)]) ∧ Sep [] w0 (aOwn tCh (lateC c s h n) cs F' :: L) w' := by
  obtain ⟨o1, o2, o3, o4, rfl, t1, t2, t3, t4, _⟩ := id h2
  obtain ⟨D1, l1, rfl⟩ := t1.val
  obtain ⟨D2, l2, rfl⟩ := t2.val
  obtain ⟨D3, l3, rfl⟩ := t3.val
  obtain ⟨D4, l4, rfl⟩ := t4.val
  obtain ⟨b1, b2, s1, s2, s3, s4, A1, n1, A2, n2, F1, F2, F3, F4, rfl, rfl, h15, S9⟩ := S.openCh
  obtain ⟨A6, n6, A7, n7, A8, n8, A9, n9, e1⟩ := S9.shapeSt (.tail _ (.head _))
  simp only [List.cons.injEq, and_true, true_and] at e1
  obtain ⟨rfl, rfl, rfl, rfl⟩ := e1
  obtain ⟨B1, k1, B2, k2, e1⟩ := S9.shapeBk List.mem_cons_self
  simp only [List.cons.injEq, and_true, true_and] at e1
  obtain ⟨rfl, rfl⟩ := e1
  have GR := Lib.hid (tSt_rows (S9.rd (d := tSt) (x := c.st) (F := F2) (.tail _ (.head _)))).1
  clear S9
  have ll := okSt_len (okCh_parts hc).2.2.1
  have lg := (okSt_len hs).2.2.2
  have HC := Lib.hid hc
  cases hm : mineV c n with
  | false =>
    have E := Lib.hid (show lateOk c s h n = false by unfold lateOk; rw [hm]; rfl)
    have HM := Lib.hid hm
    have EC := Lib.hid (show lateC c s h n = c by unfold lateC; rw [E.out]; rfl)
    clear hm hc ll lg
    go_enter Try.func110, Try.ntmps110
    go_wp2_with (first
      | (go_at_call 134; (with_reducible refine (l13Mine_c _ c _ (S.rd (d := tCh) (F := F1 ++ (F2 ++ (F3 ++ F4))) memA) HC.out n HM.out).mono ?_); rintro e w9 ⟨rfl, f9⟩; replace S := S.fr f9; clear f9)
      | ((with_reducible refine gate_box rfl ?_); refine aBx S ?_; clear S; intro g9 w9 z9 S) | ((with_reducible refine gate_alloc rfl ?_); refine aAl S ?_; clear S; intro g9 w9 z9 S) | ((with_reducible refine gate_load rfl ?_); first | refine aLd S ?_ | refine aPt S ?_ | refine aL1 S ?_) | ((with_reducible refine gate_st rfl ?_); (first | refine aS1 S ?_ | refine aSt S ?_ | refine aSp S ?_); clear S; intro w9 S))
    (refine Sep.ret1_1 S rfl rfl memA Try.underlying33 rfl ts33 rfl rfl ?_)
    rw [E.out, EC.out]
    exact ⟨_, _, rfl, S.sub subA⟩
  | true =>
  have hin := mineV_in hm
  obtain ⟨m, rfl⟩ : ∃ m : Nat, n = (m : Int) + 1 := ⟨(n - 1).toNat, by omega⟩
  have hlt : m < c.st.sent.length := by omega
  have hl4 : m < s.got.length := by omega
  obtain ⟨p, hp⟩ : ∃ p, c.st.sent[m] = p := ⟨_, rfl⟩
  have PA := Lib.hid (show pkAt c ((m : Int) + 1) = p by unfold pkAt; rw [show ((m : Int) + 1 - 1).toNat = m by omega, List.getD_eq_getElem?_getD, List.getElem?_eq_getElem hlt]; exact hp)
  obtain ⟨g, hg⟩ : ∃ g, s.got[m] = g := ⟨_, rfl⟩
  have GA := Lib.hid (show s.got.getD ((m : Int) + 1 - 1).toNat 0 = g by rw [show ((m : Int) + 1 - 1).toNat = m by omega, List.getD_eq_getElem?_getD, List.getElem?_eq_getElem hl4]; exact hg)
  have LV := Lib.hid (show lateOk c s h ((m : Int) + 1) = (decide (p.til ≤ h) && decide (g = 0)) by unfold lateOk; rw [hm, PA.out, GA.out, Bool.true_and])
  obtain ⟨ad4, e4, g4⟩ := row_int_at t4 m hl4
  cases e4
  rw [hg] at g4
  have G4 := Lib.hid g4
  obtain ⟨ad6, cs6, e6, _, _⟩ := cellsAt_of_row GR.out m hlt
  cases e6
  have HL := Lib.hid hlt
  have HP := Lib.hid (show c.st.sent[m]'HL.out = p from hp)
  have p0 : (0 : Int) ≤ (m : Int) := Int.natCast_nonneg _
  have p1 : (m : Int) < (c.st.sent.length : Int) := by omega
  have p4 : (m : Int) < (s.got.length : Int) := by omega
  have w1 : IntKind.i64.wrap ((m : Int) + 1 - 1) = (m : Int) := by rw [Int.add_sub_cancel]; exact IntWalk.i64_in _ (by omega)
  have w2 : IntKind.i64.wrap (m : Int) = (m : Int) := IntWalk.i64_in _ (by omega)
  clear GR hp hg g4 hin
  by_cases e1 : p.til ≤ h
  case neg =>
    have E := Lib.hid (show lateOk c s h ((m : Int) + 1) = false by rw [LV.out, decide_eq_false e1]; rfl)
    have d1 : decide (h < p.til) = true := decide_eq_true (by omega)
    clear e1
    have EC := Lib.hid (show lateC c s h ((m : Int) + 1) = c by unfold lateC; rw [E.out]; rfl)
    have HM := Lib.hid hm
    clear hm hc ll lg
    go_enter Try.func110, Try.ntmps110
    go_wp2_with (first
      | (go_at_call 134; (with_reducible refine (l13Mine_c _ c _ (S.rd (d := tCh) (F := F1 ++ (F2 ++ (F3 ++ F4))) memA) HC.out ((m : Int) + 1) HM.out).mono ?_); rintro e w9 ⟨rfl, f9⟩; replace S := S.fr f9; clear f9)
      | ((with_reducible refine gate_dst (N := 23) rfl ?_); go_loud (refine aRc (chSent_at (S.rd (d := tCh) (F := F1 ++ (F2 ++ (F3 ++ F4))) memA) m HL.out HP.out) ?_))
      | ((with_reducible refine gate_dst (N := 32) rfl ?_); go_loud (refine aRc (S.frame.cell G4.out) ?_))
      | ((with_reducible refine gate_box rfl ?_); refine aBx S ?_; clear S; intro g9 w9 z9 S) | ((with_reducible refine gate_alloc rfl ?_); refine aAl S ?_; clear S; intro g9 w9 z9 S) | ((with_reducible refine gate_load rfl ?_); first | refine aLd S ?_ | refine aPt S ?_ | refine aL1 S ?_) | ((with_reducible refine gate_st rfl ?_); (first | refine aS1 S ?_ | refine aSt S ?_ | refine aSp S ?_); clear S; intro w9 S))
    (refine Sep.ret1_1 S rfl rfl memA Try.underlying33 rfl ts33 rfl rfl ?_)
    rw [E.out, EC.out]
    exact ⟨_, _, rfl, S.sub subA⟩
  have d1 : decide (h < p.til) = false := decide_eq_false (by omega)
  by_cases e2 : g = 0
  case neg =>
    have E := Lib.hid (show lateOk c s h ((m : Int) + 1) = false by rw [LV.out, decide_eq_false e2, Bool.and_false])
    have d2 : (g != 0) = true := by simpa using e2
    clear e1 e2
    have EC := Lib.hid (show lateC c s h ((m : Int) + 1) = c by unfold lateC; rw [E.out]; rfl)
    have HM := Lib.hid hm
    clear hm hc ll lg
    go_enter Try.func110, Try.ntmps110
    go_wp2_with (first
      | (go_at_call 134; (with_reducible refine (l13Mine_c _ c _ (S.rd (d := tCh) (F := F1 ++ (F2 ++ (F3 ++ F4))) memA) HC.out ((m : Int) + 1) HM.out).mono ?_); rintro e w9 ⟨rfl, f9⟩; replace S := S.fr f9; clear f9)
      | ((with_reducible refine gate_dst (N := 23) rfl ?_); go_loud (refine aRc (chSent_at (S.rd (d := tCh) (F := F1 ++ (F2 ++ (F3 ++ F4))) memA) m HL.out HP.out) ?_))
      | ((with_reducible refine gate_dst (N := 32) rfl ?_); go_loud (refine aRc (S.frame.cell G4.out) ?_))
      | ((with_reducible refine gate_box rfl ?_); refine aBx S ?_; clear S; intro g9 w9 z9 S) | ((with_reducible refine gate_alloc rfl ?_); refine aAl S ?_; clear S; intro g9 w9 z9 S) | ((with_reducible refine gate_load rfl ?_); first | refine aLd S ?_ | refine aPt S ?_ | refine aL1 S ?_) | ((with_reducible refine gate_st rfl ?_); (first | refine aS1 S ?_ | refine aSt S ?_ | refine aSp S ?_); clear S; intro w9 S))
    (refine Sep.ret1_1 S rfl rfl memA Try.underlying33 rfl ts33 rfl rfl ?_)
    rw [E.out, EC.out]
    exact ⟨_, _, rfl, S.sub subA⟩
  have E := Lib.hid (show lateOk c s h ((m : Int) + 1) = true by rw [LV.out, decide_eq_true e2, decide_eq_true e1]; rfl)
  have d2 : (g != 0) = false := by simpa using e2
  have EC := Lib.hid (show lateC c s h ((m : Int) + 1) = settleCh c m p true by unfold lateC; rw [E.out, PA.out, show ((m : Int) + 1 - 1).toNat = m by omega]; rfl)
  have HM := Lib.hid hm
  clear hm hc ll lg e1 e2
  go_enter Try.func110, Try.ntmps110
  go_wp2_with (first
      | (go_at_call 134; (with_reducible refine (l13Mine_c _ c _ (S.rd (d := tCh) (F := F1 ++ (F2 ++ (F3 ++ F4))) memA) HC.out ((m : Int) + 1) HM.out).mono ?_); rintro e w9 ⟨rfl, f9⟩; replace S := S.fr f9; clear f9)
      | ((with_reducible refine gate_dst (N := 23) rfl ?_); go_loud (refine aRc (chSent_at (S.rd (d := tCh) (F := F1 ++ (F2 ++ (F3 ++ F4))) memA) m HL.out HP.out) ?_))
      | ((with_reducible refine gate_dst (N := 32) rfl ?_); go_loud (refine aRc (S.frame.cell G4.out) ?_))
      | (go_at_call 135; go_loud ((with_reducible refine (l13Settle_c _ c _ (F1 ++ (F2 ++ (F3 ++ F4))) (S.ownOk memA) HC.out m HL.out p HP.out true).mono ?_); rintro e w9 ⟨cs9, F9, rfl, T9⟩; replace S := S.callCh1 delA T9; clear T9))
      | ((with_reducible refine gate_box rfl ?_); refine aBx S ?_; clear S; intro g9 w9 z9 S) | ((with_reducible refine gate_alloc rfl ?_); refine aAl S ?_; clear S; intro g9 w9 z9 S) | ((with_reducible refine gate_load rfl ?_); first | refine aLd S ?_ | refine aPt S ?_ | refine aL1 S ?_) | ((with_reducible refine gate_st rfl ?_); (first | refine aS1 S ?_ | refine aSt S ?_ | refine aSp S ?_); clear S; intro w9 S))
  (refine Sep.ret1_1 S rfl rfl memA Try.underlying33 rfl ts33 rfl rfl ?_)
  rw [E.out, EC.out]
  exact ⟨_, _, rfl, S.sub subA⟩
end Go.Proofs.Ytapdcgjccckjeaa
namespace Go.Proofs.Ytapdcgjccckjeaa
set_option maxRecDepth 100000
set_option linter.unusedVariables false
set_option linter.unusedSimpArgs false
open Go.RowKit
theorem BankBack_x (w : World) (b : Bk) (p : Pk) (c1 : List Value) (h1 : tBk.rd w b c1) (hok : okBk b = true) (hk : 1 ≤ p.kind ∧ p.kind ≤ 2) (hf : 1 ≤ p.frm ∧ p.frm ≤ 3) (hs : 1 ≤ p.sum ∧ p.sum ≤ 9) {r : Bool} (hr : bkMay b p.kind p.sum = r) {x : Bk} (hx : (if r = true then backBk b p.kind p.frm p.sum else nilBk) = x) :
    Calls Try.prog 145 #[.agg c1.toArray, .int .i64 p.kind, .int .i64 p.frm, .int .i64 p.sum] w (RetOwn2 tBk (x, r) w) := by
  have h := BankBack_c w b c1 h1 p.kind p.frm p.sum (by unfold I64; omega) (by unfold I64; omega) (by unfold I64; omega)
  have e : bkOk b p.kind p.frm p.sum = r := by
    rw [bkOk_eq hok hk hf (by omega), ← hr]
    rfl
  unfold backR at h
  rw [e] at h
  cases r with
  | false => rw [← hx]; exact h
  | true => rw [← hx]; exact h
theorem BankBack_t (w : World) (b : Bk) (p : Pk) (c1 : List Value) (h1 : tBk.rd w b c1) (hok : okBk b = true) (hk : 1 ≤ p.kind ∧ p.kind ≤ 2) (hf : 1 ≤ p.frm ∧ p.frm ≤ 3) (hs : 1 ≤ p.sum ∧ p.sum ≤ 9) (hr : bkMay b p.kind p.sum = true) :
    Calls Try.prog 145 #[.agg c1.toArray, .int .i64 p.kind, .int .i64 p.frm, .int .i64 p.sum] w (RetOwn2 tBk (backBk b p.kind p.frm p.sum, true) w) := BankBack_x w b p c1 h1 hok hk hf hs hr rfl
theorem BankBack_f (w : World) (b : Bk) (p : Pk) (c1 : List Value) (h1 : tBk.rd w b c1) (hok : okBk b = true) (hk : 1 ≤ p.kind ∧ p.kind ≤ 2) (hf : 1 ≤ p.frm ∧ p.frm ≤ 3) (hs : 1 ≤ p.sum ∧ p.sum ≤ 9) (hr : bkMay b p.kind p.sum = false) :
    Calls Try.prog 145 #[.agg c1.toArray, .int .i64 p.kind, .int .i64 p.frm, .int .i64 p.sum] w (RetOwn2 tBk (nilBk, false) w) := BankBack_x w b p c1 h1 hok hk hf hs hr rfl
def refC (c : Ch) (m : Nat) (p : Pk) : Ch := ⟨c.id, paidBk c.bank p, ⟨c.st.way, c.st.vsn, c.st.want, c.st.sent, c.st.live, c.st.back.set m true, c.st.got⟩, c.past, c.knows⟩
set_option maxHeartbeats 6400000 in
theorem refund_c (w : World) (g : Nat) (c : Ch) (F : List Nat) (h : (aLnk g c F).ok w ∧ F.Nodup) (hb : okBk c.bank = true) (m : Nat) (hm : m < c.st.sent.length) (p : Pk) (hp : c.st.sent[m] = p) (ho : okPk p = true) (h8 : m < c.st.back.length) (hl : c.st.sent.length ≤ 8) :
    Calls Try.prog 137 #[.pointer (some ⟨g, 0, none⟩), .int .i64 ((m : Int) + 1)] w fun e w' => e = .returned (.tuple #[]) ∧ ∃ F', Sep F w [aLnk g (refC c m p) F'] w' := by
  have S := Sep.startLnk h.1 h.2
  obtain ⟨A1, m1, A2, m2, B1, n1, B2, n2, B3, n3, B4, n4, q, A5, m5, Y1, Y2, Z1, Z2, Z3, Z4, M1, K1, I9, J9, h15, S9⟩ := S.openLnk
  replace S := S9
  clear S9 h
  obtain ⟨z1, z2, z3⟩ := okPk_bd ho
  have HB := Lib.hid hb
  have ZK := Lib.hid z1
  have ZF := Lib.hid z2
  have ZS := Lib.hid z3
  obtain ⟨g6, r6, e6⟩ := (S.row (d := tPk) (xs := c.st.sent) (F := Z1) (e := 88) memA).shape (by omega)
  obtain ⟨g8, r8, e8⟩ := (S.row (d := tBool) (xs := c.st.back) (F := Z3) (e := 4) memA).shape (by omega)
  simp only [Value.slice.injEq, true_and] at e6 e8
  obtain ⟨rfl, rfl⟩ := e6
  obtain ⟨rfl, rfl⟩ := e8
  have HM := Lib.hid hm
  have HP := Lib.hid (show c.st.sent[m]'HM.out = p from hp)
  have M8 := Lib.hid h8
  have p0 : (0 : Int) ≤ (m : Int) := Int.natCast_nonneg _
  have p1 : (m : Int) < (c.st.sent.length : Int) := by omega
  have p3 : (m : Int) < (c.st.back.length : Int) := by omega
  have w1 : IntKind.i64.wrap ((m : Int) + 1 - 1) = (m : Int) := by rw [Int.add_sub_cancel]; exact IntWalk.i64_in _ (by omega)
  have w2 : IntKind.i64.wrap (m : Int) = (m : Int) := IntWalk.i64_in _ (by omega)
  clear hp ho z1 z2 z3 hm h8 hl hb
  have L8 := Lib.hid (show (c.st.back.set m true).length = c.st.back.length by simp)
  cases hr : bkMay c.bank p.kind p.sum
  case false =>
    have HR := Lib.hid hr
    have E := Lib.hid (show refC c m p = ⟨c.id, c.bank, ⟨c.st.way, c.st.vsn, c.st.want, c.st.sent, c.st.live, c.st.back.set m true, c.st.got⟩, c.past, c.knows⟩ by unfold refC paidBk; rw [hr]; rfl)
    clear hr
    go_enter Try.func137, Try.ntmps137
    go_wp2_with (first
      | ((with_reducible refine gate_dst (N := 4) rfl ?_); refine aAl S ?_; clear S; intro gP w9 z9 S)
      | ((with_reducible refine gate_dst (N := 23) rfl ?_); go_loud (obtain ⟨ad16, cs16, e16, r16, g16⟩ := cellsAt_of_row (S.row (d := tPk) (xs := c.st.sent) (F := Z1) (e := 88) memA).row m HM.out; cases e16; rw [HP.out] at r16; cases tPk_cells r16; refine aRw (ad := ⟨g6, m * 7, none⟩) (cs := [.int .i64 p.seq, .int .i64 p.kind, .int .i64 p.frm, .int .i64 p.dst, .int .i64 p.sum, .int .i64 p.til, .int .i64 p.ver]) (by simpa [tPk, addr_add, Pk.cells] using g16) ?_))
      | ((with_reducible refine gate_store (p := 14) rfl ?_); go_loud (refine aElP (d := tBool) (xs := c.st.back) (x := true) (k := m) S delA (el1_bool true) M8.out ?_); clear S; intro G8 w9 S)
      | ((with_reducible refine gate_box rfl ?_); refine aBx S ?_; clear S; intro g9 w9 z9 S) | ((with_reducible refine gate_alloc rfl ?_); refine aAl S ?_; clear S; intro g9 w9 z9 S) | ((with_reducible refine gate_load rfl ?_); first | refine aLd S ?_ | refine aPt S ?_ | refine aL1 S ?_) | ((with_reducible refine gate_st rfl ?_); (first | refine aS1 S ?_ | refine aSt S ?_ | refine aSp S ?_); clear S; intro w9 S))
    have S0 := (Sep.only2 (a1 := aBox gP 88 _ _) (a2 := aBox g 136 _ _) S delA delA)
    refine wp_region_noPanic ?_
    refine wp_region_held_drew (S := Sep _ _ _) (by kernel_rfl) S0.drew (fun _ => ?_)
    replace S := S.drew
    clear S0
    refine tk 0 ?_
    (try simp only [Act.put, List.setIfInBounds_toArray, List.set_cons_zero, List.set_cons_succ])
    refine tk 1 ?_
    (try simp only [Act.put, List.setIfInBounds_toArray, List.set_cons_zero, List.set_cons_succ])
    refine tk 2 ?_
    (try simp only [Act.put, List.setIfInBounds_toArray, List.set_cons_zero, List.set_cons_succ])
    refine tk 3 ?_
    (try simp only [Act.put, List.setIfInBounds_toArray, List.set_cons_zero, List.set_cons_succ])
    refine tk 4 ?_
    (try simp only [Act.put, List.setIfInBounds_toArray, List.set_cons_zero, List.set_cons_succ])
    refine tk 5 ?_
    (try simp only [Act.put, List.setIfInBounds_toArray, List.set_cons_zero, List.set_cons_succ])
    refine tk 6 ?_
    (try simp only [Act.put, List.setIfInBounds_toArray, List.set_cons_zero, List.set_cons_succ])
    refine tk 7 ?_
    (try simp only [Act.put, List.setIfInBounds_toArray, List.set_cons_zero, List.set_cons_succ])
    refine tk 8 ?_
    (try simp only [Act.put, List.setIfInBounds_toArray, List.set_cons_zero, List.set_cons_succ])
    refine tk 9 ?_
    (try simp only [Act.put, List.setIfInBounds_toArray, List.set_cons_zero, List.set_cons_succ])
    refine rdys [10, 14] ?_
    refine rdc 10 (fun K hK => ?_) ?_
    · go_simp; (skip; go_at_call 145; (with_reducible refine (BankBack_f _ c.bank p [.slice A1 c.bank.own.length m1, .slice A2 c.bank.notes.length m2, .int .i64 c.bank.locked] (tBk_mk (S.row (d := tInt) (xs := c.bank.own) (F := Y1) (e := 3) memA).row (S.row (d := tInt) (xs := c.bank.notes) (F := Y2) (e := 3) memA).row I9) HB.out ZK.out ZF.out ZS.out HR.out).mono ?_); rintro e w9 ⟨cs9, F9, rfl, h9, n9, b9, f9⟩; replace S := S.new (aOwn tBk _ cs9 F9) h9 n9 b9 f9; clear h9 n9 b9 f9; obtain ⟨x1, x2, X1, X2, rfl, rfl, I8, S9⟩ := S.openBk; replace S := S9; clear S9)
      (first | refine hK.out _ _ (S.sub subA) (fun _ => ?_) | (go_wp2_with fail; refine hK.out _ _ (S.sub subA) (fun _ => ?_)))
      clear hK K
      (try simp only [Act.put, List.setIfInBounds_toArray, List.set_cons_zero, List.set_cons_succ])
      refine tk 11 ?_
      (try simp only [Act.put, List.setIfInBounds_toArray, List.set_cons_zero, List.set_cons_succ])
      refine tk 12 ?_
      (try simp only [Act.put, List.setIfInBounds_toArray, List.set_cons_zero, List.set_cons_succ])
      refine tk 13 ?_
      (try simp only [Act.put, List.setIfInBounds_toArray, List.set_cons_zero, List.set_cons_succ])
      refine rdy1 14 (fun K hK => ?_)
      refine rgAl S ?_; clear S; intro g9 w9 z9 S
      (first | refine hK.out _ _ (S.sub subA) (fun _ => ?_) | (go_wp2_with fail; refine hK.out _ _ (S.sub subA) (fun _ => ?_)))
      clear hK K
      (try simp only [Act.put, List.setIfInBounds_toArray, List.set_cons_zero, List.set_cons_succ])
      refine rdy1 15 (fun K hK => ?_)
      (first | refine rgS1 S ?_ | refine rgSt S ?_ | refine rgSp S ?_); clear S; intro w9 S
      (first | refine hK.out _ _ (S.sub subA) (fun _ => ?_) | (go_wp2_with fail; refine hK.out _ _ (S.sub subA) (fun _ => ?_)))
      clear hK K
      (try simp only [Act.put, List.setIfInBounds_toArray, List.set_cons_zero, List.set_cons_succ])
      refine tk 16 ?_
      (try simp only [Act.put, List.setIfInBounds_toArray, List.set_cons_zero, List.set_cons_succ])
      refine wpAnyH_done (by kernel_rfl) ?_ _
      refine NoPanic.normal ?_
      go_wp2_with (first | ((with_reducible refine gate_box rfl ?_); refine aBx S ?_; clear S; intro g9 w9 z9 S) | ((with_reducible refine gate_alloc rfl ?_); refine aAl S ?_; clear S; intro g9 w9 z9 S) | ((with_reducible refine gate_load rfl ?_); first | refine aLd S ?_ | refine aPt S ?_ | refine aL1 S ?_) | ((with_reducible refine gate_st rfl ?_); (first | refine aS1 S ?_ | refine aSt S ?_ | refine aSp S ?_); clear S; intro w9 S))
      have S := S.allLnk ⟨c.id, c.bank, ⟨c.st.way, c.st.vsn, c.st.want, c.st.sent, c.st.live, c.st.back.set m true, c.st.got⟩, c.past, c.knows⟩ I9 J9 h15
      all_goals (try simp only [Exit.inBlock, Exit.then])
      refine bodyPost_end (results_none rfl _ _ _) rfl ?_
      rw [E.out]
      exact ⟨rfl, _, S.left [_]⟩
    refine rdc 14 (fun K hK => ?_) AllReadyH.nil
    refine rgAl S ?_; clear S; intro g9 w9 z9 S
    (first | refine hK.out _ _ (S.sub subA) (fun _ => ?_) | (go_wp2_with fail; refine hK.out _ _ (S.sub subA) (fun _ => ?_)))
    clear hK K
    (try simp only [Act.put, List.setIfInBounds_toArray, List.set_cons_zero, List.set_cons_succ])
    refine rdy1 10 (fun K hK => ?_)
    go_simp; (skip; go_at_call 145; (with_reducible refine (BankBack_f _ c.bank p [.slice A1 c.bank.own.length m1, .slice A2 c.bank.notes.length m2, .int .i64 c.bank.locked] (tBk_mk (S.row (d := tInt) (xs := c.bank.own) (F := Y1) (e := 3) memA).row (S.row (d := tInt) (xs := c.bank.notes) (F := Y2) (e := 3) memA).row I9) HB.out ZK.out ZF.out ZS.out HR.out).mono ?_); rintro e w9 ⟨cs9, F9, rfl, h9, n9, b9, f9⟩; replace S := S.new (aOwn tBk _ cs9 F9) h9 n9 b9 f9; clear h9 n9 b9 f9; obtain ⟨x1, x2, X1, X2, rfl, rfl, I8, S9⟩ := S.openBk; replace S := S9; clear S9)
    (first | refine hK.out _ _ (S.sub subA) (fun _ => ?_) | (go_wp2_with fail; refine hK.out _ _ (S.sub subA) (fun _ => ?_)))
    clear hK K
    (try simp only [Act.put, List.setIfInBounds_toArray, List.set_cons_zero, List.set_cons_succ])
    refine tk 11 ?_
    (try simp only [Act.put, List.setIfInBounds_toArray, List.set_cons_zero, List.set_cons_succ])
    refine tk 12 ?_
    (try simp only [Act.put, List.setIfInBounds_toArray, List.set_cons_zero, List.set_cons_succ])
    refine tk 13 ?_
    (try simp only [Act.put, List.setIfInBounds_toArray, List.set_cons_zero, List.set_cons_succ])
    refine rdy1 15 (fun K hK => ?_)
    (first | refine rgS1 S ?_ | refine rgSt S ?_ | refine rgSp S ?_); clear S; intro w9 S
    (first | refine hK.out _ _ (S.sub subA) (fun _ => ?_) | (go_wp2_with fail; refine hK.out _ _ (S.sub subA) (fun _ => ?_)))
    clear hK K
    (try simp only [Act.put, List.setIfInBounds_toArray, List.set_cons_zero, List.set_cons_succ])
    refine tk 16 ?_
    (try simp only [Act.put, List.setIfInBounds_toArray, List.set_cons_zero, List.set_cons_succ])
    refine wpAnyH_done (by kernel_rfl) ?_ _
    refine NoPanic.normal ?_
    go_wp2_with (first | ((with_reducible refine gate_box rfl ?_); refine aBx S ?_; clear S; intro g9 w9 z9 S) | ((with_reducible refine gate_alloc rfl ?_); refine aAl S ?_; clear S; intro g9 w9 z9 S) | ((with_reducible refine gate_load rfl ?_); first | refine aLd S ?_ | refine aPt S ?_ | refine aL1 S ?_) | ((with_reducible refine gate_st rfl ?_); (first | refine aS1 S ?_ | refine aSt S ?_ | refine aSp S ?_); clear S; intro w9 S))
    have S := S.allLnk ⟨c.id, c.bank, ⟨c.st.way, c.st.vsn, c.st.want, c.st.sent, c.st.live, c.st.back.set m true, c.st.got⟩, c.past, c.knows⟩ I9 J9 h15
    all_goals (try simp only [Exit.inBlock, Exit.then])
    refine bodyPost_end (results_none rfl _ _ _) rfl ?_
    rw [E.out]
    exact ⟨rfl, _, S.left [_]⟩
  case true =>
    have HR := Lib.hid hr
    have E := Lib.hid (show refC c m p = ⟨c.id, backBk c.bank p.kind p.frm p.sum, ⟨c.st.way, c.st.vsn, c.st.want, c.st.sent, c.st.live, c.st.back.set m true, c.st.got⟩, c.past, c.knows⟩ by unfold refC paidBk; rw [hr]; rfl)
    clear hr
    go_enter Try.func137, Try.ntmps137
    go_wp2_with (first
      | ((with_reducible refine gate_dst (N := 4) rfl ?_); refine aAl S ?_; clear S; intro gP w9 z9 S)
      | ((with_reducible refine gate_dst (N := 23) rfl ?_); go_loud (obtain ⟨ad16, cs16, e16, r16, g16⟩ := cellsAt_of_row (S.row (d := tPk) (xs := c.st.sent) (F := Z1) (e := 88) memA).row m HM.out; cases e16; rw [HP.out] at r16; cases tPk_cells r16; refine aRw (ad := ⟨g6, m * 7, none⟩) (cs := [.int .i64 p.seq, .int .i64 p.kind, .int .i64 p.frm, .int .i64 p.dst, .int .i64 p.sum, .int .i64 p.til, .int .i64 p.ver]) (by simpa [tPk, addr_add, Pk.cells] using g16) ?_))
      | ((with_reducible refine gate_store (p := 14) rfl ?_); go_loud (refine aElP (d := tBool) (xs := c.st.back) (x := true) (k := m) S delA (el1_bool true) M8.out ?_); clear S; intro G8 w9 S)
      | ((with_reducible refine gate_box rfl ?_); refine aBx S ?_; clear S; intro g9 w9 z9 S) | ((with_reducible refine gate_alloc rfl ?_); refine aAl S ?_; clear S; intro g9 w9 z9 S) | ((with_reducible refine gate_load rfl ?_); first | refine aLd S ?_ | refine aPt S ?_ | refine aL1 S ?_) | ((with_reducible refine gate_st rfl ?_); (first | refine aS1 S ?_ | refine aSt S ?_ | refine aSp S ?_); clear S; intro w9 S))
    have S0 := (Sep.only2 (a1 := aBox gP 88 _ _) (a2 := aBox g 136 _ _) S delA delA)
    refine wp_region_noPanic ?_
    refine wp_region_held_drew (S := Sep _ _ _) (by kernel_rfl) S0.drew (fun _ => ?_)
    replace S := S.drew
    clear S0
    refine tk 0 ?_
    (try simp only [Act.put, List.setIfInBounds_toArray, List.set_cons_zero, List.set_cons_succ])
    refine tk 1 ?_
    (try simp only [Act.put, List.setIfInBounds_toArray, List.set_cons_zero, List.set_cons_succ])
    refine tk 2 ?_
    (try simp only [Act.put, List.setIfInBounds_toArray, List.set_cons_zero, List.set_cons_succ])
    refine tk 3 ?_
    (try simp only [Act.put, List.setIfInBounds_toArray, List.set_cons_zero, List.set_cons_succ])
    refine tk 4 ?_
    (try simp only [Act.put, List.setIfInBounds_toArray, List.set_cons_zero, List.set_cons_succ])
    refine tk 5 ?_
    (try simp only [Act.put, List.setIfInBounds_toArray, List.set_cons_zero, List.set_cons_succ])
    refine tk 6 ?_
    (try simp only [Act.put, List.setIfInBounds_toArray, List.set_cons_zero, List.set_cons_succ])
    refine tk 7 ?_
    (try simp only [Act.put, List.setIfInBounds_toArray, List.set_cons_zero, List.set_cons_succ])
    refine tk 8 ?_
    (try simp only [Act.put, List.setIfInBounds_toArray, List.set_cons_zero, List.set_cons_succ])
    refine tk 9 ?_
    (try simp only [Act.put, List.setIfInBounds_toArray, List.set_cons_zero, List.set_cons_succ])
    refine rdys [10, 14] ?_
    refine rdc 10 (fun K hK => ?_) ?_
    · go_simp; (skip; go_at_call 145; (with_reducible refine (BankBack_t _ c.bank p [.slice A1 c.bank.own.length m1, .slice A2 c.bank.notes.length m2, .int .i64 c.bank.locked] (tBk_mk (S.row (d := tInt) (xs := c.bank.own) (F := Y1) (e := 3) memA).row (S.row (d := tInt) (xs := c.bank.notes) (F := Y2) (e := 3) memA).row I9) HB.out ZK.out ZF.out ZS.out HR.out).mono ?_); rintro e w9 ⟨cs9, F9, rfl, h9, n9, b9, f9⟩; replace S := S.new (aOwn tBk _ cs9 F9) h9 n9 b9 f9; clear h9 n9 b9 f9; obtain ⟨x1, x2, X1, X2, rfl, rfl, I8, S9⟩ := S.openBk; replace S := S9; clear S9)
      (first | refine hK.out _ _ (S.sub subA) (fun _ => ?_) | (go_wp2_with fail; refine hK.out _ _ (S.sub subA) (fun _ => ?_)))
      clear hK K
      (try simp only [Act.put, List.setIfInBounds_toArray, List.set_cons_zero, List.set_cons_succ])
      refine tk 11 ?_
      (try simp only [Act.put, List.setIfInBounds_toArray, List.set_cons_zero, List.set_cons_succ])
      refine tk 12 ?_
      (try simp only [Act.put, List.setIfInBounds_toArray, List.set_cons_zero, List.set_cons_succ])
      refine tk 13 ?_
      (try simp only [Act.put, List.setIfInBounds_toArray, List.set_cons_zero, List.set_cons_succ])
      refine rdy1 14 (fun K hK => ?_)
      refine rgAl S ?_; clear S; intro g9 w9 z9 S
      (first | refine hK.out _ _ (S.sub subA) (fun _ => ?_) | (go_wp2_with fail; refine hK.out _ _ (S.sub subA) (fun _ => ?_)))
      clear hK K
      (try simp only [Act.put, List.setIfInBounds_toArray, List.set_cons_zero, List.set_cons_succ])
      refine rdy1 15 (fun K hK => ?_)
      (first | refine rgS1 S ?_ | refine rgSt S ?_ | refine rgSp S ?_); clear S; intro w9 S
      (first | refine hK.out _ _ (S.sub subA) (fun _ => ?_) | (go_wp2_with fail; refine hK.out _ _ (S.sub subA) (fun _ => ?_)))
      clear hK K
      (try simp only [Act.put, List.setIfInBounds_toArray, List.set_cons_zero, List.set_cons_succ])
      refine tk 16 ?_
      (try simp only [Act.put, List.setIfInBounds_toArray, List.set_cons_zero, List.set_cons_succ])
      refine wpAnyH_done (by kernel_rfl) ?_ _
      refine NoPanic.normal ?_
      go_wp2_with (first | ((with_reducible refine gate_box rfl ?_); refine aBx S ?_; clear S; intro g9 w9 z9 S) | ((with_reducible refine gate_alloc rfl ?_); refine aAl S ?_; clear S; intro g9 w9 z9 S) | ((with_reducible refine gate_load rfl ?_); first | refine aLd S ?_ | refine aPt S ?_ | refine aL1 S ?_) | ((with_reducible refine gate_st rfl ?_); (first | refine aS1 S ?_ | refine aSt S ?_ | refine aSp S ?_); clear S; intro w9 S))
      have S := S.allLnk ⟨c.id, backBk c.bank p.kind p.frm p.sum, ⟨c.st.way, c.st.vsn, c.st.want, c.st.sent, c.st.live, c.st.back.set m true, c.st.got⟩, c.past, c.knows⟩ I8 J9 h15
      all_goals (try simp only [Exit.inBlock, Exit.then])
      refine bodyPost_end (results_none rfl _ _ _) rfl ?_
      rw [E.out]
      exact ⟨rfl, _, S.left [_]⟩
    refine rdc 14 (fun K hK => ?_) AllReadyH.nil
    refine rgAl S ?_; clear S; intro g9 w9 z9 S
    (first | refine hK.out _ _ (S.sub subA) (fun _ => ?_) | (go_wp2_with fail; refine hK.out _ _ (S.sub subA) (fun _ => ?_)))
    clear hK K
    (try simp only [Act.put, List.setIfInBounds_toArray, List.set_cons_zero, List.set_cons_succ])
    refine rdy1 10 (fun K hK => ?_)
    go_simp; (skip; go_at_call 145; (with_reducible refine (BankBack_t _ c.bank p [.slice A1 c.bank.own.length m1, .slice A2 c.bank.notes.length m2, .int .i64 c.bank.locked] (tBk_mk (S.row (d := tInt) (xs := c.bank.own) (F := Y1) (e := 3) memA).row (S.row (d := tInt) (xs := c.bank.notes) (F := Y2) (e := 3) memA).row I9) HB.out ZK.out ZF.out ZS.out HR.out).mono ?_); rintro e w9 ⟨cs9, F9, rfl, h9, n9, b9, f9⟩; replace S := S.new (aOwn tBk _ cs9 F9) h9 n9 b9 f9; clear h9 n9 b9 f9; obtain ⟨x1, x2, X1, X2, rfl, rfl, I8, S9⟩ := S.openBk; replace S := S9; clear S9)
    (first | refine hK.out _ _ (S.sub subA) (fun _ => ?_) | (go_wp2_with fail; refine hK.out _ _ (S.sub subA) (fun _ => ?_)))
    clear hK K
    (try simp only [Act.put, List.setIfInBounds_toArray, List.set_cons_zero, List.set_cons_succ])
    refine tk 11 ?_
    (try simp only [Act.put, List.setIfInBounds_toArray, List.set_cons_zero, List.set_cons_succ])
    refine tk 12 ?_
    (try simp only [Act.put, List.setIfInBounds_toArray, List.set_cons_zero, List.set_cons_succ])
    refine tk 13 ?_
    (try simp only [Act.put, List.setIfInBounds_toArray, List.set_cons_zero, List.set_cons_succ])
    refine rdy1 15 (fun K hK => ?_)
    (first | refine rgS1 S ?_ | refine rgSt S ?_ | refine rgSp S ?_); clear S; intro w9 S
    (first | refine hK.out _ _ (S.sub subA) (fun _ => ?_) | (go_wp2_with fail; refine hK.out _ _ (S.sub subA) (fun _ => ?_)))
    clear hK K
    (try simp only [Act.put, List.setIfInBounds_toArray, List.set_cons_zero, List.set_cons_succ])
    refine tk 16 ?_
    (try simp only [Act.put, List.setIfInBounds_toArray, List.set_cons_zero, List.set_cons_succ])
    refine wpAnyH_done (by kernel_rfl) ?_ _
    refine NoPanic.normal ?_
    go_wp2_with (first | ((with_reducible refine gate_box rfl ?_); refine aBx S ?_; clear S; intro g9 w9 z9 S) | ((with_reducible refine gate_alloc rfl ?_); refine aAl S ?_; clear S; intro g9 w9 z9 S) | ((with_reducible refine gate_load rfl ?_); first | refine aLd S ?_ | refine aPt S ?_ | refine aL1 S ?_) | ((with_reducible refine gate_st rfl ?_); (first | refine aS1 S ?_ | refine aSt S ?_ | refine aSp S ?_); clear S; intro w9 S))
    have S := S.allLnk ⟨c.id, backBk c.bank p.kind p.frm p.sum, ⟨c.st.way, c.st.vsn, c.st.want, c.st.sent, c.st.live, c.st.back.set m true, c.st.got⟩, c.past, c.knows⟩ I8 J9 h15
    all_goals (try simp only [Exit.inBlock, Exit.then])
    refine bodyPost_end (results_none rfl _ _ _) rfl ?_
    rw [E.out]
    exact ⟨rfl, _, S.left [_]⟩
end Go.Proofs.Ytapdcgjccckjeaa
namespace Go.Proofs.Ytapdcgjccckjeaa
set_option maxRecDepth 100000
set_option linter.unusedVariables false
set_option linter.unusedSimpArgs false
open Go.RowKit
theorem settledN_c (w : World) : Calls Try.prog 177 #[.agg #[]] w (Ret (.bool false) w) := by
  go_enter Try.func177, Try.ntmps177
  go_wp2
  go_ret
  exact ⟨rfl, (Fr.refl w).alloc _⟩
theorem settledO_c (w : World) : Calls Try.prog 178 #[.agg #[]] w (Ret (.bool true) w) := by
  go_enter Try.func178, Try.ntmps178
  go_wp2
  go_ret
  exact ⟨rfl, (Fr.refl w).alloc _⟩
theorem settledB_c (w : World) : Calls Try.prog 179 #[.agg #[]] w (Ret (.bool true) w) := by
  go_enter Try.func179, Try.ntmps179
  go_wp2
  go_ret
  exact ⟨rfl, (Fr.refl w).alloc _⟩
@[go_sem] theorem methSettled0 (v : Value) (w : World) : (method 298 173 v "loop.example/hawser/impl.settled").run Try.prog w = .ok (177, v) w := by kernel_rfl
@[go_sem] theorem methSettled1 (v : Value) (w : World) : (method 298 174 v "loop.example/hawser/impl.settled").run Try.prog w = .ok (178, v) w := by kernel_rfl
@[go_sem] theorem methSettled2 (v : Value) (w : World) : (method 298 175 v "loop.example/hawser/impl.settled").run Try.prog w = .ok (179, v) w := by kernel_rfl
end Go.Proofs.Ytapdcgjccckjeaa
