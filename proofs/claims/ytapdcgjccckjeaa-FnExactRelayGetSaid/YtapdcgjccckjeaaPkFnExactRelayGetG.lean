/- The texts ImplAwayD, ChSend, ChSend2, ChBlockB, ChSend3, SpecBackD. -/
import Derived.Test.YtapdcgjccckjeaaPkFnExactRelayGetF
namespace Go.Proofs.Ytapdcgjccckjeaa
set_option maxRecDepth 100000
set_option linter.unusedVariables false
set_option linter.unusedSimpArgs false
open Go.RowKit
set_option maxHeartbeats 6400000 in
theorem BankAway_c (w : World) (b : Bk) (c1 : List Value) (h1 : tBk.rd w b c1) (k fr s : Int) (bk : I64 k) (bf : I64 fr) (bs : I64 s) : Calls Try.prog 133 #[.agg c1.toArray, .int .i64 k, .int .i64 fr, .int .i64 s] w (RetOwn2 tBk (awayR b k fr s) w) := by
  obtain ⟨v1, v2, rfl, h11, h12, h13⟩ := h1
  have f := Fr.refl w
  unfold I64 at bk bf bs
  cases d2 : decide (1 ≤ k ∧ k ≤ 2) with
  | false =>
    have e := Lib.hid (show awayR b k fr s = (nilBk, false) by unfold awayR; rw [if_neg (by simp only [awOk, d2]; simp)])
    have HC := Lib.hid (coinsV_no (of_decide_eq_false d2))
    have Dd2 := Lib.hid d2
    clear d2
    go_enter Try.func133, Try.ntmps133
    go_wp2_with (first
      | ((with_reducible refine gate_dst (N := 4) rfl ?_); refine wpList_box rfl _ _ rfl #[v1, v2, .int .i64 b.locked] rfl ?_; intro g_k4 w9 hg_k4 k4 f9; have zf_k4 := f.size; have hl_k4 := k4.lt; have z9 := f9.size; replace f := f.trans f9; (try (replace k8 := k8.fr f9; (try clear r_k8); have r_k8 := k8.cells)); (try (replace k12 := k12.fr f9; (try clear r_k12); have r_k12 := k12.cells)); (try clear r_k4); have r_k4 := k4.cells)
      | ((with_reducible refine gate_dst (N := 8) rfl ?_); refine wpList_alloc rfl _ rfl _ (zero26 _) #[.slice none 0 0, .slice none 0 0, .int .i64 0] rfl ?_; intro g_k8 w9 hg_k8 k8 f9; have zf_k8 := f.size; have hl_k8 := k8.lt; have z9 := f9.size; replace f := f.trans f9; (try (replace k4 := k4.fr f9; (try clear r_k4); have r_k4 := k4.cells)); (try (replace k12 := k12.fr f9; (try clear r_k12); have r_k12 := k12.cells)); (try clear r_k8); have r_k8 := k8.cells)
      | (go_at_call 148; (with_reducible refine (coinsOf_c _ _).mono ?_); rintro e w9 ⟨rfl, rfl⟩; rw [HC.out])
      | (go_at_call 67; (with_reducible refine (BankOk_c _ b [v1, v2, .int .i64 b.locked] (tBk_mk (h11.fr f) (h12.fr f) h13)).mono ?_); rintro e w9 ⟨rfl, f9⟩; (try rw [Dd2.out]); have z9 := f9.size; replace f := f.trans f9; (try (replace k4 := k4.fr f9; (try clear r_k4); have r_k4 := k4.cells)); (try (replace k8 := k8.fr f9; (try clear r_k8); have r_k8 := k8.cells)); (try (replace k12 := k12.fr f9; (try clear r_k12); have r_k12 := k12.cells)))
      | (go_at_call 143; (with_reducible refine (userOk_c _ _).mono ?_); rintro e w9 ⟨rfl, rfl⟩; (try rw [Dd2.out]))
      | ((with_reducible refine gate_store (p := 8) rfl ?_); refine wpList_bstore k8 rfl _ _ _ rfl 0 3 rfl (.agg #[.slice none 0 0, .slice none 0 0, .int .i64 0]) rfl #[.slice none 0 0, .slice none 0 0, .int .i64 0] rfl rfl size26 (by simp) (by intro u hu; simp at hu; rcases hu with rfl | rfl <;> rfl) #[.slice none 0 0, .slice none 0 0, .int .i64 0] rfl ?_; intro w9 k9 c9; have z9 := c9.size; replace f := f.own c9 (fun q hq => by have := List.mem_singleton.1 hq; have := f.size; omega); (try (replace k4 := k4.chg c9 (fun hm => by have := List.mem_singleton.1 hm; omega); (try clear r_k4); have r_k4 := k4.cells)); (try (replace k12 := k12.chg c9 (fun hm => by have := List.mem_singleton.1 hm; omega); (try clear r_k12); have r_k12 := k12.cells)); replace k8 := k9; clear k9; (try clear r_k8); have r_k8 := k8.cells))
    exact bodyPost_ret (v := .tuple #[.agg #[.slice none 0 0, .slice none 0 0, .int .i64 0], .bool false]) (results_cell_row2 rfl _ _ g_k8 _ _ _ _ rfl k8.blk Try.underlying26 rfl size26 _ rfl) rfl ⟨[.slice none 0 0, .slice none 0 0, .int .i64 0], [], by rw [e.out], by rw [e.out]; exact nilBk_own _, by simp, by simp, f⟩
  | true =>
  have hk2 := of_decide_eq_true d2
  obtain ⟨fn, hfn⟩ := coinsV_ok hk2
  cases d3 : decide (1 ≤ fr ∧ fr ≤ 3) with
  | false =>
    have e := Lib.hid (show awayR b k fr s = (nilBk, false) by unfold awayR; rw [if_neg (by simp only [awOk, d2, d3]; simp)])
    have HC := Lib.hid hfn
    clear hfn
    have Dd2 := Lib.hid d2
    clear d2
    have Dd3 := Lib.hid d3
    clear d3
    go_enter Try.func133, Try.ntmps133
    go_wp2_with (first
      | ((with_reducible refine gate_dst (N := 4) rfl ?_); refine wpList_box rfl _ _ rfl #[v1, v2, .int .i64 b.locked] rfl ?_; intro g_k4 w9 hg_k4 k4 f9; have zf_k4 := f.size; have hl_k4 := k4.lt; have z9 := f9.size; replace f := f.trans f9; (try (replace k8 := k8.fr f9; (try clear r_k8); have r_k8 := k8.cells)); (try (replace k12 := k12.fr f9; (try clear r_k12); have r_k12 := k12.cells)); (try clear r_k4); have r_k4 := k4.cells)
      | ((with_reducible refine gate_dst (N := 8) rfl ?_); refine wpList_alloc rfl _ rfl _ (zero26 _) #[.slice none 0 0, .slice none 0 0, .int .i64 0] rfl ?_; intro g_k8 w9 hg_k8 k8 f9; have zf_k8 := f.size; have hl_k8 := k8.lt; have z9 := f9.size; replace f := f.trans f9; (try (replace k4 := k4.fr f9; (try clear r_k4); have r_k4 := k4.cells)); (try (replace k12 := k12.fr f9; (try clear r_k12); have r_k12 := k12.cells)); (try clear r_k8); have r_k8 := k8.cells)
      | (go_at_call 148; (with_reducible refine (coinsOf_c _ _).mono ?_); rintro e w9 ⟨rfl, rfl⟩; rw [HC.out])
      | (go_at_call 67; (with_reducible refine (BankOk_c _ b [v1, v2, .int .i64 b.locked] (tBk_mk (h11.fr f) (h12.fr f) h13)).mono ?_); rintro e w9 ⟨rfl, f9⟩; (try rw [Dd2.out]); (try rw [Dd3.out]); have z9 := f9.size; replace f := f.trans f9; (try (replace k4 := k4.fr f9; (try clear r_k4); have r_k4 := k4.cells)); (try (replace k8 := k8.fr f9; (try clear r_k8); have r_k8 := k8.cells)); (try (replace k12 := k12.fr f9; (try clear r_k12); have r_k12 := k12.cells)))
      | (go_at_call 143; (with_reducible refine (userOk_c _ _).mono ?_); rintro e w9 ⟨rfl, rfl⟩; (try rw [Dd2.out]); (try rw [Dd3.out]))
      | ((with_reducible refine gate_store (p := 8) rfl ?_); refine wpList_bstore k8 rfl _ _ _ rfl 0 3 rfl (.agg #[.slice none 0 0, .slice none 0 0, .int .i64 0]) rfl #[.slice none 0 0, .slice none 0 0, .int .i64 0] rfl rfl size26 (by simp) (by intro u hu; simp at hu; rcases hu with rfl | rfl <;> rfl) #[.slice none 0 0, .slice none 0 0, .int .i64 0] rfl ?_; intro w9 k9 c9; have z9 := c9.size; replace f := f.own c9 (fun q hq => by have := List.mem_singleton.1 hq; have := f.size; omega); (try (replace k4 := k4.chg c9 (fun hm => by have := List.mem_singleton.1 hm; omega); (try clear r_k4); have r_k4 := k4.cells)); (try (replace k12 := k12.chg c9 (fun hm => by have := List.mem_singleton.1 hm; omega); (try clear r_k12); have r_k12 := k12.cells)); replace k8 := k9; clear k9; (try clear r_k8); have r_k8 := k8.cells))
    exact bodyPost_ret (v := .tuple #[.agg #[.slice none 0 0, .slice none 0 0, .int .i64 0], .bool false]) (results_cell_row2 rfl _ _ g_k8 _ _ _ _ rfl k8.blk Try.underlying26 rfl size26 _ rfl) rfl ⟨[.slice none 0 0, .slice none 0 0, .int .i64 0], [], by rw [e.out], by rw [e.out]; exact nilBk_own _, by simp, by simp, f⟩
  | true =>
  have hfr := of_decide_eq_true d3
  by_cases hs : s < 0
  · have e := Lib.hid (show awayR b k fr s = (nilBk, false) by unfold awayR; rw [if_neg (by simp only [awOk, decide_eq_false (show ¬ 0 ≤ s by omega)]; simp)])
    have HC := Lib.hid hfn
    clear hfn
    have Dd2 := Lib.hid d2
    clear d2
    have Dd3 := Lib.hid d3
    clear d3
    go_enter Try.func133, Try.ntmps133
    go_wp2_with (first
      | ((with_reducible refine gate_dst (N := 4) rfl ?_); refine wpList_box rfl _ _ rfl #[v1, v2, .int .i64 b.locked] rfl ?_; intro g_k4 w9 hg_k4 k4 f9; have zf_k4 := f.size; have hl_k4 := k4.lt; have z9 := f9.size; replace f := f.trans f9; (try (replace k8 := k8.fr f9; (try clear r_k8); have r_k8 := k8.cells)); (try (replace k12 := k12.fr f9; (try clear r_k12); have r_k12 := k12.cells)); (try clear r_k4); have r_k4 := k4.cells)
      | ((with_reducible refine gate_dst (N := 8) rfl ?_); refine wpList_alloc rfl _ rfl _ (zero26 _) #[.slice none 0 0, .slice none 0 0, .int .i64 0] rfl ?_; intro g_k8 w9 hg_k8 k8 f9; have zf_k8 := f.size; have hl_k8 := k8.lt; have z9 := f9.size; replace f := f.trans f9; (try (replace k4 := k4.fr f9; (try clear r_k4); have r_k4 := k4.cells)); (try (replace k12 := k12.fr f9; (try clear r_k12); have r_k12 := k12.cells)); (try clear r_k8); have r_k8 := k8.cells)
      | (go_at_call 148; (with_reducible refine (coinsOf_c _ _).mono ?_); rintro e w9 ⟨rfl, rfl⟩; rw [HC.out])
      | (go_at_call 67; (with_reducible refine (BankOk_c _ b [v1, v2, .int .i64 b.locked] (tBk_mk (h11.fr f) (h12.fr f) h13)).mono ?_); rintro e w9 ⟨rfl, f9⟩; (try rw [Dd2.out]); (try rw [Dd3.out]); have z9 := f9.size; replace f := f.trans f9; (try (replace k4 := k4.fr f9; (try clear r_k4); have r_k4 := k4.cells)); (try (replace k8 := k8.fr f9; (try clear r_k8); have r_k8 := k8.cells)); (try (replace k12 := k12.fr f9; (try clear r_k12); have r_k12 := k12.cells)))
      | (go_at_call 143; (with_reducible refine (userOk_c _ _).mono ?_); rintro e w9 ⟨rfl, rfl⟩; (try rw [Dd2.out]); (try rw [Dd3.out]))
      | ((with_reducible refine gate_store (p := 8) rfl ?_); refine wpList_bstore k8 rfl _ _ _ rfl 0 3 rfl (.agg #[.slice none 0 0, .slice none 0 0, .int .i64 0]) rfl #[.slice none 0 0, .slice none 0 0, .int .i64 0] rfl rfl size26 (by simp) (by intro u hu; simp at hu; rcases hu with rfl | rfl <;> rfl) #[.slice none 0 0, .slice none 0 0, .int .i64 0] rfl ?_; intro w9 k9 c9; have z9 := c9.size; replace f := f.own c9 (fun q hq => by have := List.mem_singleton.1 hq; have := f.size; omega); (try (replace k4 := k4.chg c9 (fun hm => by have := List.mem_singleton.1 hm; omega); (try clear r_k4); have r_k4 := k4.cells)); (try (replace k12 := k12.chg c9 (fun hm => by have := List.mem_singleton.1 hm; omega); (try clear r_k12); have r_k12 := k12.cells)); replace k8 := k9; clear k9; (try clear r_k8); have r_k8 := k8.cells))
    exact bodyPost_ret (v := .tuple #[.agg #[.slice none 0 0, .slice none 0 0, .int .i64 0], .bool false]) (results_cell_row2 rfl _ _ g_k8 _ _ _ _ rfl k8.blk Try.underlying26 rfl size26 _ rfl) rfl ⟨[.slice none 0 0, .slice none 0 0, .int .i64 0], [], by rw [e.out], by rw [e.out]; exact nilBk_own _, by simp, by simp, f⟩
  have hs0 : 0 ≤ s := by omega
  have hsf : decide (s < 0) = false := decide_eq_false hs
  cases d1 : okBk b with
  | false =>
    have e := Lib.hid (show awayR b k fr s = (nilBk, false) by unfold awayR; rw [if_neg (by simp only [awOk, d1]; simp)])
    have HC := Lib.hid hfn
    clear hfn
    have Dd2 := Lib.hid d2
    clear d2
    have Dd3 := Lib.hid d3
    clear d3
    have Dd1 := Lib.hid d1
    clear d1
    go_enter Try.func133, Try.ntmps133
    go_wp2_with (first
      | ((with_reducible refine gate_dst (N := 4) rfl ?_); refine wpList_box rfl _ _ rfl #[v1, v2, .int .i64 b.locked] rfl ?_; intro g_k4 w9 hg_k4 k4 f9; have zf_k4 := f.size; have hl_k4 := k4.lt; have z9 := f9.size; replace f := f.trans f9; (try (replace k8 := k8.fr f9; (try clear r_k8); have r_k8 := k8.cells)); (try (replace k12 := k12.fr f9; (try clear r_k12); have r_k12 := k12.cells)); (try clear r_k4); have r_k4 := k4.cells)
      | ((with_reducible refine gate_dst (N := 8) rfl ?_); refine wpList_alloc rfl _ rfl _ (zero26 _) #[.slice none 0 0, .slice none 0 0, .int .i64 0] rfl ?_; intro g_k8 w9 hg_k8 k8 f9; have zf_k8 := f.size; have hl_k8 := k8.lt; have z9 := f9.size; replace f := f.trans f9; (try (replace k4 := k4.fr f9; (try clear r_k4); have r_k4 := k4.cells)); (try (replace k12 := k12.fr f9; (try clear r_k12); have r_k12 := k12.cells)); (try clear r_k8); have r_k8 := k8.cells)
      | (go_at_call 148; (with_reducible refine (coinsOf_c _ _).mono ?_); rintro e w9 ⟨rfl, rfl⟩; rw [HC.out])
      | (go_at_call 67; (with_reducible refine (BankOk_c _ b [v1, v2, .int .i64 b.locked] (tBk_mk (h11.fr f) (h12.fr f) h13)).mono ?_); rintro e w9 ⟨rfl, f9⟩; (try rw [Dd2.out]); (try rw [Dd3.out]); (try rw [Dd1.out]); have z9 := f9.size; replace f := f.trans f9; (try (replace k4 := k4.fr f9; (try clear r_k4); have r_k4 := k4.cells)); (try (replace k8 := k8.fr f9; (try clear r_k8); have r_k8 := k8.cells)); (try (replace k12 := k12.fr f9; (try clear r_k12); have r_k12 := k12.cells)))
      | (go_at_call 143; (with_reducible refine (userOk_c _ _).mono ?_); rintro e w9 ⟨rfl, rfl⟩; (try rw [Dd2.out]); (try rw [Dd3.out]); (try rw [Dd1.out]))
      | ((with_reducible refine gate_store (p := 8) rfl ?_); refine wpList_bstore k8 rfl _ _ _ rfl 0 3 rfl (.agg #[.slice none 0 0, .slice none 0 0, .int .i64 0]) rfl #[.slice none 0 0, .slice none 0 0, .int .i64 0] rfl rfl size26 (by simp) (by intro u hu; simp at hu; rcases hu with rfl | rfl <;> rfl) #[.slice none 0 0, .slice none 0 0, .int .i64 0] rfl ?_; intro w9 k9 c9; have z9 := c9.size; replace f := f.own c9 (fun q hq => by have := List.mem_singleton.1 hq; have := f.size; omega); (try (replace k4 := k4.chg c9 (fun hm => by have := List.mem_singleton.1 hm; omega); (try clear r_k4); have r_k4 := k4.cells)); (try (replace k12 := k12.chg c9 (fun hm => by have := List.mem_singleton.1 hm; omega); (try clear r_k12); have r_k12 := k12.cells)); replace k8 := k9; clear k9; (try clear r_k8); have r_k8 := k8.cells))
    exact bodyPost_ret (v := .tuple #[.agg #[.slice none 0 0, .slice none 0 0, .int .i64 0], .bool false]) (results_cell_row2 rfl _ _ g_k8 _ _ _ _ rfl k8.blk Try.underlying26 rfl size26 _ rfl) rfl ⟨[.slice none 0 0, .slice none 0 0, .int .i64 0], [], by rw [e.out], by rw [e.out]; exact nilBk_own _, by simp, by simp, f⟩
  | true =>
  obtain ⟨q1, q2, q3, q4, q5⟩ := okBk_split d1
  have ln1 := okL_len q1
  have ln2 := okL_len q2
  have sb1 := sum_bd q1
  have sb2 := sum_bd q2
  have LN := Lib.hid (And.intro ln1 ln2)
  clear hfn
  rcases (by omega : k = 1 ∨ k = 2) with rfl | rfl
  · skip
    have HC := Lib.hid (show coinsV 1 = .tuple #[.func (.func 156) #[] #[], .bool true] from rfl)
    have bx := okL_get q1 (fr.toNat - 1) (by omega)
    rw [at0_get (by omega)] at bx
    obtain ⟨x, hx⟩ : ∃ x, at0 b.own (fr.toNat - 1) = x := ⟨_, rfl⟩
    rw [hx] at bx
    have LI := Lib.hid (show fr.toNat - 1 < b.own.length by omega)
    by_cases hlt : x < s
    · have e := Lib.hid (show awayR b 1 fr s = (nilBk, false) from awayR_no d1 hk2 hfr hs0 (by show ¬ s ≤ at0 b.own (fr.toNat - 1); rw [hx]; omega))
      have HX := Lib.hid hx
      clear hx ln1 ln2
      have Dd2 := Lib.hid d2
      clear d2
      have Dd3 := Lib.hid d3
      clear d3
      have Dd1 := Lib.hid d1
      clear d1
      go_enter Try.func133, Try.ntmps133
      go_wp2_with (first
        | ((with_reducible refine gate_dst (N := 4) rfl ?_); refine wpList_box rfl _ _ rfl #[v1, v2, .int .i64 b.locked] rfl ?_; intro g_k4 w9 hg_k4 k4 f9; have zf_k4 := f.size; have hl_k4 := k4.lt; have z9 := f9.size; replace f := f.trans f9; (try replace m1 := m1.fr f9); (try replace m2 := m2.fr f9); (try (replace k8 := k8.fr f9; (try clear r_k8); have r_k8 := k8.cells)); (try (replace k12 := k12.fr f9; (try clear r_k12); have r_k12 := k12.cells)); (try clear r_k4); have r_k4 := k4.cells)
        | ((with_reducible refine gate_dst (N := 8) rfl ?_); refine wpList_alloc rfl _ rfl _ (zero26 _) #[.slice none 0 0, .slice none 0 0, .int .i64 0] rfl ?_; intro g_k8 w9 hg_k8 k8 f9; have zf_k8 := f.size; have hl_k8 := k8.lt; have z9 := f9.size; replace f := f.trans f9; (try replace m1 := m1.fr f9); (try replace m2 := m2.fr f9); (try (replace k4 := k4.fr f9; (try clear r_k4); have r_k4 := k4.cells)); (try (replace k12 := k12.fr f9; (try clear r_k12); have r_k12 := k12.cells)); (try clear r_k8); have r_k8 := k8.cells)
        | (go_at_call 148; (with_reducible refine (coinsOf_c _ _).mono ?_); rintro e w9 ⟨rfl, rfl⟩; rw [HC.out])
        | (go_at_call 67; (with_reducible refine (BankOk_c _ b [v1, v2, .int .i64 b.locked] (tBk_mk (h11.fr f) (h12.fr f) h13)).mono ?_); rintro e w9 ⟨rfl, f9⟩; (try rw [Dd2.out]); (try rw [Dd3.out]); (try rw [Dd1.out]); have z9 := f9.size; replace f := f.trans f9; (try replace m1 := m1.fr f9); (try replace m2 := m2.fr f9); (try (replace k4 := k4.fr f9; (try clear r_k4); have r_k4 := k4.cells)); (try (replace k8 := k8.fr f9; (try clear r_k8); have r_k8 := k8.cells)); (try (replace k12 := k12.fr f9; (try clear r_k12); have r_k12 := k12.cells)))
        | (go_at_call 143; (with_reducible refine (userOk_c _ _).mono ?_); rintro e w9 ⟨rfl, rfl⟩; (try rw [Dd2.out]); (try rw [Dd3.out]); (try rw [Dd1.out]))
        | (go_at_call 149; (with_reducible refine (ledgerOf_c _ b [v1, v2, .int .i64 b.locked] (tBk_mk (h11.fr f) (h12.fr f) h13) LN.out).mono ?_); rintro e w9 ⟨g1, g2, rfl, m1, m2, gne, lo1, lo2, f9⟩; have tm1 := m1.lt; have tm2 := m2.lt; have z9 := f9.size; replace f := f.trans f9; (try replace m1 := m1.fr f9); (try replace m2 := m2.fr f9); (try (replace k4 := k4.fr f9; (try clear r_k4); have r_k4 := k4.cells)); (try (replace k8 := k8.fr f9; (try clear r_k8); have r_k8 := k8.cells)); (try (replace k12 := k12.fr f9; (try clear r_k12); have r_k12 := k12.cells)))
        | ((with_reducible refine gate_dst (N := 12) rfl ?_); refine wpList_alloc rfl _ rfl _ (lzero168 _) #[.map none, .map none, .int .i64 0] rfl ?_; intro g_k12 w9 hg_k12 k12 f9; have zf_k12 := f.size; have hl_k12 := k12.lt; have z9 := f9.size; replace f := f.trans f9; (try replace m1 := m1.fr f9); (try replace m2 := m2.fr f9); (try (replace k4 := k4.fr f9; (try clear r_k4); have r_k4 := k4.cells)); (try (replace k8 := k8.fr f9; (try clear r_k8); have r_k8 := k8.cells)); (try clear r_k12); have r_k12 := k12.cells)
        | (((with_reducible refine gate_store (p := 12) rfl ?_); refine wpList_bstore k12 rfl _ _ _ rfl 0 3 rfl (.agg #[.map (some g1), .map (some g2), .int .i64 b.locked]) rfl #[.map (some g1), .map (some g2), .int .i64 b.locked] rfl rfl size168 (by simp) (by intro u hu; simp at hu; rcases hu with rfl | rfl | rfl <;> rfl) #[.map (some g1), .map (some g2), .int .i64 b.locked] rfl ?_; intro w9 k9 c9; have z9 := c9.size; replace f := f.own c9 (fun q hq => by have := List.mem_singleton.1 hq; have := f.size; omega); (try (replace k4 := k4.chg c9 (fun hm => by have := List.mem_singleton.1 hm; omega); (try clear r_k4); have r_k4 := k4.cells)); (try (replace k8 := k8.chg c9 (fun hm => by have := List.mem_singleton.1 hm; omega); (try clear r_k8); have r_k8 := k8.cells)); replace k12 := k9; clear k9; (try clear r_k12); have r_k12 := k12.cells); (try replace m1 := m1.chg c9 (fun hm => by have := List.mem_singleton.1 hm; omega)); (try replace m2 := m2.chg c9 (fun hm => by have := List.mem_singleton.1 hm; omega)))
        | ((with_reducible refine gate_dst (N := 39) rfl ?_); refine wpList_bload k12 rfl _ _ rfl 0 3 rfl _ Try.underlying168 rfl size168 (by simp) #[.map (some g1), .map (some g2), .int .i64 b.locked] rfl ?_)
        | (go_at_call 156; (with_reducible refine (ownCoins_c _ _ _ _).mono ?_); rintro e w9 ⟨rfl, f9⟩; have z9 := f9.size; replace f := f.trans f9; (try replace m1 := m1.fr f9); (try replace m2 := m2.fr f9); (try (replace k4 := k4.fr f9; (try clear r_k4); have r_k4 := k4.cells)); (try (replace k8 := k8.fr f9; (try clear r_k8); have r_k8 := k8.cells)); (try (replace k12 := k12.fr f9; (try clear r_k12); have r_k12 := k12.cells)))
        | ((with_reducible refine gate_dst (N := 43) rfl ?_); refine wpList_lookv rfl _ _ rfl Try.underlying166 Try.underlying3 rfl m1 (fr.toNat - 1) LI.out x HX.out _ rfl (by omega) ?_)
        | ((with_reducible refine gate_store (p := 8) rfl ?_); refine wpList_bstore k8 rfl _ _ _ rfl 0 3 rfl (.agg #[.slice none 0 0, .slice none 0 0, .int .i64 0]) rfl #[.slice none 0 0, .slice none 0 0, .int .i64 0] rfl rfl size26 (by simp) (by intro u hu; simp at hu; rcases hu with rfl | rfl <;> rfl) #[.slice none 0 0, .slice none 0 0, .int .i64 0] rfl ?_; intro w9 k9 c9; have z9 := c9.size; replace f := f.own c9 (fun q hq => by have := List.mem_singleton.1 hq; have := f.size; omega); (try (replace k4 := k4.chg c9 (fun hm => by have := List.mem_singleton.1 hm; omega); (try clear r_k4); have r_k4 := k4.cells)); (try (replace k12 := k12.chg c9 (fun hm => by have := List.mem_singleton.1 hm; omega); (try clear r_k12); have r_k12 := k12.cells)); replace k8 := k9; clear k9; (try clear r_k8); have r_k8 := k8.cells))
      exact bodyPost_ret (v := .tuple #[.agg #[.slice none 0 0, .slice none 0 0, .int .i64 0], .bool false]) (results_cell_row2 rfl _ _ g_k8 _ _ _ _ rfl k8.blk Try.underlying26 rfl size26 _ rfl) rfl ⟨[.slice none 0 0, .slice none 0 0, .int .i64 0], [], by rw [e.out], by rw [e.out]; exact nilBk_own _, by simp, by simp, f⟩
    have hle : s ≤ x := by omega
    have ltf : decide (x < s) = false := decide_eq_false hlt
    obtain ⟨ys, hys⟩ : ∃ ys, addAt b.own (fr.toNat - 1) (-s) = ys := ⟨_, rfl⟩
    have hyl : ys.length = 3 := by rw [← hys, addAt_len]; omega
    have hy1 : b.own.set (fr.toNat - 1) (x - s) = ys := by rw [← hys, addAt, hx, show x - s = x + -s from Int.sub_eq_add_neg]
    have e := Lib.hid (show awayR b 1 fr s = ((⟨ys, b.notes, b.locked + s⟩ : Bk), true) by rw [awayR_yes d1 hk2 hfr hs0 (by show s ≤ at0 b.own (fr.toNat - 1); rw [hx]; exact hle), show awayBk b 1 fr s = (⟨ys, b.notes, b.locked + s⟩ : Bk) by rw [← hys]; rfl])
    have hI : I64 (b.locked + s) := by unfold I64; omega
    have HX := Lib.hid hx
    have HY := Lib.hid hy1
    have LZ := Lib.hid (show ys.length = 3 ∧ b.notes.length = 3 by exact ⟨by omega, by omega⟩)
    clear ln1 ln2 hyl hys hy1 hx
    have Dd2 := Lib.hid d2
    clear d2
    have Dd3 := Lib.hid d3
    clear d3
    have Dd1 := Lib.hid d1
    clear d1
    go_enter Try.func133, Try.ntmps133
    go_wp2_with (first
      | ((with_reducible refine gate_dst (N := 4) rfl ?_); refine wpList_box rfl _ _ rfl #[v1, v2, .int .i64 b.locked] rfl ?_; intro g_k4 w9 hg_k4 k4 f9; have zf_k4 := f.size; have hl_k4 := k4.lt; have z9 := f9.size; replace f := f.trans f9; (try replace m1 := m1.fr f9); (try replace m2 := m2.fr f9); (try replace ho1 := ho1.fr f9); (try replace ho2 := ho2.fr f9); (try (replace k8 := k8.fr f9; (try clear r_k8); have r_k8 := k8.cells)); (try (replace k12 := k12.fr f9; (try clear r_k12); have r_k12 := k12.cells)); (try clear r_k4); have r_k4 := k4.cells)
      | ((with_reducible refine gate_dst (N := 8) rfl ?_); refine wpList_alloc rfl _ rfl _ (zero26 _) #[.slice none 0 0, .slice none 0 0, .int .i64 0] rfl ?_; intro g_k8 w9 hg_k8 k8 f9; have zf_k8 := f.size; have hl_k8 := k8.lt; have z9 := f9.size; replace f := f.trans f9; (try replace m1 := m1.fr f9); (try replace m2 := m2.fr f9); (try replace ho1 := ho1.fr f9); (try replace ho2 := ho2.fr f9); (try (replace k4 := k4.fr f9; (try clear r_k4); have r_k4 := k4.cells)); (try (replace k12 := k12.fr f9; (try clear r_k12); have r_k12 := k12.cells)); (try clear r_k8); have r_k8 := k8.cells)
      | (go_at_call 148; (with_reducible refine (coinsOf_c _ _).mono ?_); rintro e w9 ⟨rfl, rfl⟩; rw [HC.out])
      | (go_at_call 67; (with_reducible refine (BankOk_c _ b [v1, v2, .int .i64 b.locked] (tBk_mk (h11.fr f) (h12.fr f) h13)).mono ?_); rintro e w9 ⟨rfl, f9⟩; (try rw [Dd2.out]); (try rw [Dd3.out]); (try rw [Dd1.out]); have z9 := f9.size; replace f := f.trans f9; (try replace m1 := m1.fr f9); (try replace m2 := m2.fr f9); (try replace ho1 := ho1.fr f9); (try replace ho2 := ho2.fr f9); (try (replace k4 := k4.fr f9; (try clear r_k4); have r_k4 := k4.cells)); (try (replace k8 := k8.fr f9; (try clear r_k8); have r_k8 := k8.cells)); (try (replace k12 := k12.fr f9; (try clear r_k12); have r_k12 := k12.cells)))
      | (go_at_call 143; (with_reducible refine (userOk_c _ _).mono ?_); rintro e w9 ⟨rfl, rfl⟩; (try rw [Dd2.out]); (try rw [Dd3.out]); (try rw [Dd1.out]))
      | (go_at_call 149; (with_reducible refine (ledgerOf_c _ b [v1, v2, .int .i64 b.locked] (tBk_mk (h11.fr f) (h12.fr f) h13) LN.out).mono ?_); rintro e w9 ⟨g1, g2, rfl, m1, m2, gne, lo1, lo2, f9⟩; have tm1 := m1.lt; have tm2 := m2.lt; have z9 := f9.size; replace f := f.trans f9; (try replace m1 := m1.fr f9); (try replace m2 := m2.fr f9); (try replace ho1 := ho1.fr f9); (try replace ho2 := ho2.fr f9); (try (replace k4 := k4.fr f9; (try clear r_k4); have r_k4 := k4.cells)); (try (replace k8 := k8.fr f9; (try clear r_k8); have r_k8 := k8.cells)); (try (replace k12 := k12.fr f9; (try clear r_k12); have r_k12 := k12.cells)))
      | ((with_reducible refine gate_dst (N := 12) rfl ?_); refine wpList_alloc rfl _ rfl _ (lzero168 _) #[.map none, .map none, .int .i64 0] rfl ?_; intro g_k12 w9 hg_k12 k12 f9; have zf_k12 := f.size; have hl_k12 := k12.lt; have z9 := f9.size; replace f := f.trans f9; (try replace m1 := m1.fr f9); (try replace m2 := m2.fr f9); (try replace ho1 := ho1.fr f9); (try replace ho2 := ho2.fr f9); (try (replace k4 := k4.fr f9; (try clear r_k4); have r_k4 := k4.cells)); (try (replace k8 := k8.fr f9; (try clear r_k8); have r_k8 := k8.cells)); (try clear r_k12); have r_k12 := k12.cells)
      | (((with_reducible refine gate_store (p := 12) rfl ?_); refine wpList_bstore k12 rfl _ _ _ rfl 0 3 rfl (.agg #[.map (some g1), .map (some g2), .int .i64 b.locked]) rfl #[.map (some g1), .map (some g2), .int .i64 b.locked] rfl rfl size168 (by simp) (by intro u hu; simp at hu; rcases hu with rfl | rfl | rfl <;> rfl) #[.map (some g1), .map (some g2), .int .i64 b.locked] rfl ?_; intro w9 k9 c9; have z9 := c9.size; replace f := f.own c9 (fun q hq => by have := List.mem_singleton.1 hq; have := f.size; omega); (try replace ho1 := ho1.chg c9 (fun q hq hm => by have := hb1 q hq; have := hu1 q hq; have := List.mem_singleton.1 hm; omega)); (try replace ho2 := ho2.chg c9 (fun q hq hm => by have := hb2 q hq; have := hu2 q hq; have := List.mem_singleton.1 hm; omega)); (try (replace k4 := k4.chg c9 (fun hm => by have := List.mem_singleton.1 hm; omega); (try clear r_k4); have r_k4 := k4.cells)); (try (replace k8 := k8.chg c9 (fun hm => by have := List.mem_singleton.1 hm; omega); (try clear r_k8); have r_k8 := k8.cells)); replace k12 := k9; clear k9; (try clear r_k12); have r_k12 := k12.cells); (try replace m1 := m1.chg c9 (fun hm => by have := List.mem_singleton.1 hm; omega)); (try replace m2 := m2.chg c9 (fun hm => by have := List.mem_singleton.1 hm; omega)))
      | ((with_reducible refine gate_dst (N := 39) rfl ?_); refine wpList_bload k12 rfl _ _ rfl 0 3 rfl _ Try.underlying168 rfl size168 (by simp) #[.map (some g1), .map (some g2), .int .i64 b.locked] rfl ?_)
      | (go_at_call 156; (with_reducible refine (ownCoins_c _ _ _ _).mono ?_); rintro e w9 ⟨rfl, f9⟩; have z9 := f9.size; replace f := f.trans f9; (try replace m1 := m1.fr f9); (try replace m2 := m2.fr f9); (try replace ho1 := ho1.fr f9); (try replace ho2 := ho2.fr f9); (try (replace k4 := k4.fr f9; (try clear r_k4); have r_k4 := k4.cells)); (try (replace k8 := k8.fr f9; (try clear r_k8); have r_k8 := k8.cells)); (try (replace k12 := k12.fr f9; (try clear r_k12); have r_k12 := k12.cells)))
      | ((with_reducible refine gate_dst (N := 43) rfl ?_); refine wpList_lookv rfl _ _ rfl Try.underlying166 Try.underlying3 rfl m1 (fr.toNat - 1) LI.out x HX.out _ rfl (by omega) ?_)
      | ((with_reducible refine gate_dst (N := 49) rfl ?_); refine wpList_lookv rfl _ _ rfl Try.underlying166 Try.underlying3 rfl m1 (fr.toNat - 1) LI.out x HX.out _ rfl (by omega) ?_)
      | ((with_reducible refine gate_map rfl ?_); refine wpList_mapset rfl _ _ _ rfl Try.underlying166 Try.underlying3 rfl m1 (fr.toNat - 1) LI.out _ (x - s) rfl rfl (by omega) ?_; intro w9 h9 c9; rw [HY.out] at h9; have z9 := c9.size; replace f := f.own c9 (fun q hq => by have := List.mem_singleton.1 hq; omega); replace m1 := h9; clear h9; replace m2 := m2.chg c9 (fun hm => by have := List.mem_singleton.1 hm; omega); replace k4 := k4.chg c9 (fun hm => by have := List.mem_singleton.1 hm; omega); replace k8 := k8.chg c9 (fun hm => by have := List.mem_singleton.1 hm; omega); replace k12 := k12.chg c9 (fun hm => by have := List.mem_singleton.1 hm; omega); (try clear r_k4); (try clear r_k8); (try clear r_k12); have r_k12 := k12.cells)
      | (((with_reducible refine gate_store (p := 58) rfl ?_); refine wpList_bstore1 k12 rfl _ _ _ rfl 2 rfl (.int .i64 (b.locked + s)) rfl (rfl) size3 (by simp) #[.map (some g1), .map (some g2), .int .i64 (b.locked + s)] rfl ?_; intro w9 k9 c9; have z9 := c9.size; replace f := f.own c9 (fun q hq => by have := List.mem_singleton.1 hq; have := f.size; omega); (try replace ho1 := ho1.chg c9 (fun q hq hm => by have := hb1 q hq; have := hu1 q hq; have := List.mem_singleton.1 hm; omega)); (try replace ho2 := ho2.chg c9 (fun q hq hm => by have := hb2 q hq; have := hu2 q hq; have := List.mem_singleton.1 hm; omega)); (try (replace k4 := k4.chg c9 (fun hm => by have := List.mem_singleton.1 hm; omega); (try clear r_k4); have r_k4 := k4.cells)); (try (replace k8 := k8.chg c9 (fun hm => by have := List.mem_singleton.1 hm; omega); (try clear r_k8); have r_k8 := k8.cells)); replace k12 := k9; clear k9; (try clear r_k12); have r_k12 := k12.cells); (try replace m1 := m1.chg c9 (fun hm => by have := List.mem_singleton.1 hm; omega)); (try replace m2 := m2.chg c9 (fun hm => by have := List.mem_singleton.1 hm; omega)))
      | ((with_reducible refine gate_dst (N := 59) rfl ?_); refine wpList_bload k12 rfl _ _ rfl 0 3 rfl _ Try.underlying168 rfl size168 (by simp) #[.map (some g1), .map (some g2), .int .i64 (b.locked + s)] rfl ?_)
      | (go_at_call 150; (with_reducible refine (ledgerBank_c _ g1 g2 ys b.notes (b.locked + s) m1 m2 LZ.out hI).mono ?_); rintro e w9 ⟨_, F, rfl, ⟨o1, o2, F1, F2, rfl, rfl, ho1, ho2, _⟩, hn, hb0, f9⟩; have hb1 := fun g hg => hb0 g (List.mem_append_left _ hg); have hb2 := fun g hg => hb0 g (List.mem_append_right _ hg); have hu1 := ho1.lt; have hu2 := ho2.lt; have z9 := f9.size; replace f := f.trans f9; (try replace m1 := m1.fr f9); (try replace m2 := m2.fr f9); (try replace ho1 := ho1.fr f9); (try replace ho2 := ho2.fr f9); (try (replace k4 := k4.fr f9; (try clear r_k4); have r_k4 := k4.cells)); (try (replace k8 := k8.fr f9; (try clear r_k8); have r_k8 := k8.cells)); (try (replace k12 := k12.fr f9; (try clear r_k12); have r_k12 := k12.cells)))
      | ((with_reducible refine gate_store (p := 8) rfl ?_); refine wpList_bstore k8 rfl _ _ _ rfl 0 3 rfl (.agg #[o1, o2, .int .i64 (b.locked + s)]) rfl #[o1, o2, .int .i64 (b.locked + s)] rfl rfl size26 (by simp) (by intro u hu; simp at hu; rcases hu with rfl | rfl | rfl; exact ho1.one; exact ho2.one; rfl) #[o1, o2, .int .i64 (b.locked + s)] rfl ?_; intro w9 k9 c9; have z9 := c9.size; replace f := f.own c9 (fun q hq => by have := List.mem_singleton.1 hq; have := f.size; omega); (try replace ho1 := ho1.chg c9 (fun q hq hm => by have := hb1 q hq; have := hu1 q hq; have := List.mem_singleton.1 hm; omega)); (try replace ho2 := ho2.chg c9 (fun q hq hm => by have := hb2 q hq; have := hu2 q hq; have := List.mem_singleton.1 hm; omega)); (try (replace k4 := k4.chg c9 (fun hm => by have := List.mem_singleton.1 hm; omega); (try clear r_k4); have r_k4 := k4.cells)); (try (replace k12 := k12.chg c9 (fun hm => by have := List.mem_singleton.1 hm; omega); (try clear r_k12); have r_k12 := k12.cells)); replace k8 := k9; clear k9; (try clear r_k8); have r_k8 := k8.cells))
    exact bodyPost_ret (v := .tuple #[.agg #[o1, o2, .int .i64 (b.locked + s)], .bool true]) (results_cell_row2 rfl _ _ g_k8 _ _ _ _ rfl k8.blk Try.underlying26 rfl size26 _ rfl) rfl ⟨[o1, o2, .int .i64 (b.locked + s)], F1 ++ F2, by rw [e.out], by rw [e.out]; exact ⟨_, _, F1, F2, rfl, rfl, ho1, ho2, hI⟩, hn, lo_append (lo_mono hb1 (by omega)) (lo_mono hb2 (by omega)) (Nat.le_refl _), f⟩
  · skip
    have HC := Lib.hid (show coinsV 2 = .tuple #[.func (.func 157) #[] #[], .bool true] from rfl)
    have bx := okL_get q2 (fr.toNat - 1) (by omega)
    rw [at0_get (by omega)] at bx
    obtain ⟨x, hx⟩ : ∃ x, at0 b.notes (fr.toNat - 1) = x := ⟨_, rfl⟩
    rw [hx] at bx
    have LI := Lib.hid (show fr.toNat - 1 < b.notes.length by omega)
    by_cases hlt : x < s
    · have e := Lib.hid (show awayR b 2 fr s = (nilBk, false) from awayR_no d1 hk2 hfr hs0 (by show ¬ s ≤ at0 b.notes (fr.toNat - 1); rw [hx]; omega))
      have HX := Lib.hid hx
      clear hx ln1 ln2
      have Dd2 := Lib.hid d2
      clear d2
      have Dd3 := Lib.hid d3
      clear d3
      have Dd1 := Lib.hid d1
      clear d1
      go_enter Try.func133, Try.ntmps133
      go_wp2_with (first
        | ((with_reducible refine gate_dst (N := 4) rfl ?_); refine wpList_box rfl _ _ rfl #[v1, v2, .int .i64 b.locked] rfl ?_; intro g_k4 w9 hg_k4 k4 f9; have zf_k4 := f.size; have hl_k4 := k4.lt; have z9 := f9.size; replace f := f.trans f9; (try replace m1 := m1.fr f9); (try replace m2 := m2.fr f9); (try (replace k8 := k8.fr f9; (try clear r_k8); have r_k8 := k8.cells)); (try (replace k12 := k12.fr f9; (try clear r_k12); have r_k12 := k12.cells)); (try clear r_k4); have r_k4 := k4.cells)
        | ((with_reducible refine gate_dst (N := 8) rfl ?_); refine wpList_alloc rfl _ rfl _ (zero26 _) #[.slice none 0 0, .slice none 0 0, .int .i64 0] rfl ?_; intro g_k8 w9 hg_k8 k8 f9; have zf_k8 := f.size; have hl_k8 := k8.lt; have z9 := f9.size; replace f := f.trans f9; (try replace m1 := m1.fr f9); (try replace m2 := m2.fr f9); (try (replace k4 := k4.fr f9; (try clear r_k4); have r_k4 := k4.cells)); (try (replace k12 := k12.fr f9; (try clear r_k12); have r_k12 := k12.cells)); (try clear r_k8); have r_k8 := k8.cells)
        | (go_at_call 148; (with_reducible refine (coinsOf_c _ _).mono ?_); rintro e w9 ⟨rfl, rfl⟩; rw [HC.out])
        | (go_at_call 67; (with_reducible refine (BankOk_c _ b [v1, v2, .int .i64 b.locked] (tBk_mk (h11.fr f) (h12.fr f) h13)).mono ?_); rintro e w9 ⟨rfl, f9⟩; (try rw [Dd2.out]); (try rw [Dd3.out]); (try rw [Dd1.out]); have z9 := f9.size; replace f := f.trans f9; (try replace m1 := m1.fr f9); (try replace m2 := m2.fr f9); (try (replace k4 := k4.fr f9; (try clear r_k4); have r_k4 := k4.cells)); (try (replace k8 := k8.fr f9; (try clear r_k8); have r_k8 := k8.cells)); (try (replace k12 := k12.fr f9; (try clear r_k12); have r_k12 := k12.cells)))
        | (go_at_call 143; (with_reducible refine (userOk_c _ _).mono ?_); rintro e w9 ⟨rfl, rfl⟩; (try rw [Dd2.out]); (try rw [Dd3.out]); (try rw [Dd1.out]))
        | (go_at_call 149; (with_reducible refine (ledgerOf_c _ b [v1, v2, .int .i64 b.locked] (tBk_mk (h11.fr f) (h12.fr f) h13) LN.out).mono ?_); rintro e w9 ⟨g1, g2, rfl, m1, m2, gne, lo1, lo2, f9⟩; have tm1 := m1.lt; have tm2 := m2.lt; have z9 := f9.size; replace f := f.trans f9; (try replace m1 := m1.fr f9); (try replace m2 := m2.fr f9); (try (replace k4 := k4.fr f9; (try clear r_k4); have r_k4 := k4.cells)); (try (replace k8 := k8.fr f9; (try clear r_k8); have r_k8 := k8.cells)); (try (replace k12 := k12.fr f9; (try clear r_k12); have r_k12 := k12.cells)))
        | ((with_reducible refine gate_dst (N := 12) rfl ?_); refine wpList_alloc rfl _ rfl _ (lzero168 _) #[.map none, .map none, .int .i64 0] rfl ?_; intro g_k12 w9 hg_k12 k12 f9; have zf_k12 := f.size; have hl_k12 := k12.lt; have z9 := f9.size; replace f := f.trans f9; (try replace m1 := m1.fr f9); (try replace m2 := m2.fr f9); (try (replace k4 := k4.fr f9; (try clear r_k4); have r_k4 := k4.cells)); (try (replace k8 := k8.fr f9; (try clear r_k8); have r_k8 := k8.cells)); (try clear r_k12); have r_k12 := k12.cells)
        | (((with_reducible refine gate_store (p := 12) rfl ?_); refine wpList_bstore k12 rfl _ _ _ rfl 0 3 rfl (.agg #[.map (some g1), .map (some g2), .int .i64 b.locked]) rfl #[.map (some g1), .map (some g2), .int .i64 b.locked] rfl rfl size168 (by simp) (by intro u hu; simp at hu; rcases hu with rfl | rfl | rfl <;> rfl) #[.map (some g1), .map (some g2), .int .i64 b.locked] rfl ?_; intro w9 k9 c9; have z9 := c9.size; replace f := f.own c9 (fun q hq => by have := List.mem_singleton.1 hq; have := f.size; omega); (try (replace k4 := k4.chg c9 (fun hm => by have := List.mem_singleton.1 hm; omega); (try clear r_k4); have r_k4 := k4.cells)); (try (replace k8 := k8.chg c9 (fun hm => by have := List.mem_singleton.1 hm; omega); (try clear r_k8); have r_k8 := k8.cells)); replace k12 := k9; clear k9; (try clear r_k12); have r_k12 := k12.cells); (try replace m1 := m1.chg c9 (fun hm => by have := List.mem_singleton.1 hm; omega)); (try replace m2 := m2.chg c9 (fun hm => by have := List.mem_singleton.1 hm; omega)))
        | ((with_reducible refine gate_dst (N := 39) rfl ?_); refine wpList_bload k12 rfl _ _ rfl 0 3 rfl _ Try.underlying168 rfl size168 (by simp) #[.map (some g1), .map (some g2), .int .i64 b.locked] rfl ?_)
        | (go_at_call 157; (with_reducible refine (noteCoins_c _ _ _ _).mono ?_); rintro e w9 ⟨rfl, f9⟩; have z9 := f9.size; replace f := f.trans f9; (try replace m1 := m1.fr f9); (try replace m2 := m2.fr f9); (try (replace k4 := k4.fr f9; (try clear r_k4); have r_k4 := k4.cells)); (try (replace k8 := k8.fr f9; (try clear r_k8); have r_k8 := k8.cells)); (try (replace k12 := k12.fr f9; (try clear r_k12); have r_k12 := k12.cells)))
        | ((with_reducible refine gate_dst (N := 43) rfl ?_); refine wpList_lookv rfl _ _ rfl Try.underlying166 Try.underlying3 rfl m2 (fr.toNat - 1) LI.out x HX.out _ rfl (by omega) ?_)
        | ((with_reducible refine gate_store (p := 8) rfl ?_); refine wpList_bstore k8 rfl _ _ _ rfl 0 3 rfl (.agg #[.slice none 0 0, .slice none 0 0, .int .i64 0]) rfl #[.slice none 0 0, .slice none 0 0, .int .i64 0] rfl rfl size26 (by simp) (by intro u hu; simp at hu; rcases hu with rfl | rfl <;> rfl) #[.slice none 0 0, .slice none 0 0, .int .i64 0] rfl ?_; intro w9 k9 c9; have z9 := c9.size; replace f := f.own c9 (fun q hq => by have := List.mem_singleton.1 hq; have := f.size; omega); (try (replace k4 := k4.chg c9 (fun hm => by have := List.mem_singleton.1 hm; omega); (try clear r_k4); have r_k4 := k4.cells)); (try (replace k12 := k12.chg c9 (fun hm => by have := List.mem_singleton.1 hm; omega); (try clear r_k12); have r_k12 := k12.cells)); replace k8 := k9; clear k9; (try clear r_k8); have r_k8 := k8.cells))
      exact bodyPost_ret (v := .tuple #[.agg #[.slice none 0 0, .slice none 0 0, .int .i64 0], .bool false]) (results_cell_row2 rfl _ _ g_k8 _ _ _ _ rfl k8.blk Try.underlying26 rfl size26 _ rfl) rfl ⟨[.slice none 0 0, .slice none 0 0, .int .i64 0], [], by rw [e.out], by rw [e.out]; exact nilBk_own _, by simp, by simp, f⟩
    have hle : s ≤ x := by omega
    have ltf : decide (x < s) = false := decide_eq_false hlt
    obtain ⟨ys, hys⟩ : ∃ ys, addAt b.notes (fr.toNat - 1) (-s) = ys := ⟨_, rfl⟩
    have hyl : ys.length = 3 := by rw [← hys, addAt_len]; omega
    have hy1 : b.notes.set (fr.toNat - 1) (x - s) = ys := by rw [← hys, addAt, hx, show x - s = x + -s from Int.sub_eq_add_neg]
    have e := Lib.hid (show awayR b 2 fr s = ((⟨b.own, ys, b.locked⟩ : Bk), true) by rw [awayR_yes d1 hk2 hfr hs0 (by show s ≤ at0 b.notes (fr.toNat - 1); rw [hx]; exact hle), show awayBk b 2 fr s = (⟨b.own, ys, b.locked⟩ : Bk) by rw [← hys]; rfl])
    have hI : I64 (b.locked) := by unfold I64; exact h13
    have HX := Lib.hid hx
    have HY := Lib.hid hy1
    have LZ := Lib.hid (show b.own.length = 3 ∧ ys.length = 3 by exact ⟨by omega, by omega⟩)
    clear ln1 ln2 hyl hys hy1 hx
    have Dd2 := Lib.hid d2
    clear d2
    have Dd3 := Lib.hid d3
    clear d3
    have Dd1 := Lib.hid d1
    clear d1
    go_enter Try.func133, Try.ntmps133
    go_wp2_with (first
      | ((with_reducible refine gate_dst (N := 4) rfl ?_); refine wpList_box rfl _ _ rfl #[v1, v2, .int .i64 b.locked] rfl ?_; intro g_k4 w9 hg_k4 k4 f9; have zf_k4 := f.size; have hl_k4 := k4.lt; have z9 := f9.size; replace f := f.trans f9; (try replace m1 := m1.fr f9); (try replace m2 := m2.fr f9); (try replace ho1 := ho1.fr f9); (try replace ho2 := ho2.fr f9); (try (replace k8 := k8.fr f9; (try clear r_k8); have r_k8 := k8.cells)); (try (replace k12 := k12.fr f9; (try clear r_k12); have r_k12 := k12.cells)); (try clear r_k4); have r_k4 := k4.cells)
      | ((with_reducible refine gate_dst (N := 8) rfl ?_); refine wpList_alloc rfl _ rfl _ (zero26 _) #[.slice none 0 0, .slice none 0 0, .int .i64 0] rfl ?_; intro g_k8 w9 hg_k8 k8 f9; have zf_k8 := f.size; have hl_k8 := k8.lt; have z9 := f9.size; replace f := f.trans f9; (try replace m1 := m1.fr f9); (try replace m2 := m2.fr f9); (try replace ho1 := ho1.fr f9); (try replace ho2 := ho2.fr f9); (try (replace k4 := k4.fr f9; (try clear r_k4); have r_k4 := k4.cells)); (try (replace k12 := k12.fr f9; (try clear r_k12); have r_k12 := k12.cells)); (try clear r_k8); have r_k8 := k8.cells)
      | (go_at_call 148; (with_reducible refine (coinsOf_c _ _).mono ?_); rintro e w9 ⟨rfl, rfl⟩; rw [HC.out])
      | (go_at_call 67; (with_reducible refine (BankOk_c _ b [v1, v2, .int .i64 b.locked] (tBk_mk (h11.fr f) (h12.fr f) h13)).mono ?_); rintro e w9 ⟨rfl, f9⟩; (try rw [Dd2.out]); (try rw [Dd3.out]); (try rw [Dd1.out]); have z9 := f9.size; replace f := f.trans f9; (try replace m1 := m1.fr f9); (try replace m2 := m2.fr f9); (try replace ho1 := ho1.fr f9); (try replace ho2 := ho2.fr f9); (try (replace k4 := k4.fr f9; (try clear r_k4); have r_k4 := k4.cells)); (try (replace k8 := k8.fr f9; (try clear r_k8); have r_k8 := k8.cells)); (try (replace k12 := k12.fr f9; (try clear r_k12); have r_k12 := k12.cells)))
      | (go_at_call 143; (with_reducible refine (userOk_c _ _).mono ?_); rintro e w9 ⟨rfl, rfl⟩; (try rw [Dd2.out]); (try rw [Dd3.out]); (try rw [Dd1.out]))
      | (go_at_call 149; (with_reducible refine (ledgerOf_c _ b [v1, v2, .int .i64 b.locked] (tBk_mk (h11.fr f) (h12.fr f) h13) LN.out).mono ?_); rintro e w9 ⟨g1, g2, rfl, m1, m2, gne, lo1, lo2, f9⟩; have tm1 := m1.lt; have tm2 := m2.lt; have z9 := f9.size; replace f := f.trans f9; (try replace m1 := m1.fr f9); (try replace m2 := m2.fr f9); (try replace ho1 := ho1.fr f9); (try replace ho2 := ho2.fr f9); (try (replace k4 := k4.fr f9; (try clear r_k4); have r_k4 := k4.cells)); (try (replace k8 := k8.fr f9; (try clear r_k8); have r_k8 := k8.cells)); (try (replace k12 := k12.fr f9; (try clear r_k12); have r_k12 := k12.cells)))
      | ((with_reducible refine gate_dst (N := 12) rfl ?_); refine wpList_alloc rfl _ rfl _ (lzero168 _) #[.map none, .map none, .int .i64 0] rfl ?_; intro g_k12 w9 hg_k12 k12 f9; have zf_k12 := f.size; have hl_k12 := k12.lt; have z9 := f9.size; replace f := f.trans f9; (try replace m1 := m1.fr f9); (try replace m2 := m2.fr f9); (try replace ho1 := ho1.fr f9); (try replace ho2 := ho2.fr f9); (try (replace k4 := k4.fr f9; (try clear r_k4); have r_k4 := k4.cells)); (try (replace k8 := k8.fr f9; (try clear r_k8); have r_k8 := k8.cells)); (try clear r_k12); have r_k12 := k12.cells)
      | (((with_reducible refine gate_store (p := 12) rfl ?_); refine wpList_bstore k12 rfl _ _ _ rfl 0 3 rfl (.agg #[.map (some g1), .map (some g2), .int .i64 b.locked]) rfl #[.map (some g1), .map (some g2), .int .i64 b.locked] rfl rfl size168 (by simp) (by intro u hu; simp at hu; rcases hu with rfl | rfl | rfl <;> rfl) #[.map (some g1), .map (some g2), .int .i64 b.locked] rfl ?_; intro w9 k9 c9; have z9 := c9.size; replace f := f.own c9 (fun q hq => by have := List.mem_singleton.1 hq; have := f.size; omega); (try replace ho1 := ho1.chg c9 (fun q hq hm => by have := hb1 q hq; have := hu1 q hq; have := List.mem_singleton.1 hm; omega)); (try replace ho2 := ho2.chg c9 (fun q hq hm => by have := hb2 q hq; have := hu2 q hq; have := List.mem_singleton.1 hm; omega)); (try (replace k4 := k4.chg c9 (fun hm => by have := List.mem_singleton.1 hm; omega); (try clear r_k4); have r_k4 := k4.cells)); (try (replace k8 := k8.chg c9 (fun hm => by have := List.mem_singleton.1 hm; omega); (try clear r_k8); have r_k8 := k8.cells)); replace k12 := k9; clear k9; (try clear r_k12); have r_k12 := k12.cells); (try replace m1 := m1.chg c9 (fun hm => by have := List.mem_singleton.1 hm; omega)); (try replace m2 := m2.chg c9 (fun hm => by have := List.mem_singleton.1 hm; omega)))
      | ((with_reducible refine gate_dst (N := 39) rfl ?_); refine wpList_bload k12 rfl _ _ rfl 0 3 rfl _ Try.underlying168 rfl size168 (by simp) #[.map (some g1), .map (some g2), .int .i64 b.locked] rfl ?_)
      | (go_at_call 157; (with_reducible refine (noteCoins_c _ _ _ _).mono ?_); rintro e w9 ⟨rfl, f9⟩; have z9 := f9.size; replace f := f.trans f9; (try replace m1 := m1.fr f9); (try replace m2 := m2.fr f9); (try replace ho1 := ho1.fr f9); (try replace ho2 := ho2.fr f9); (try (replace k4 := k4.fr f9; (try clear r_k4); have r_k4 := k4.cells)); (try (replace k8 := k8.fr f9; (try clear r_k8); have r_k8 := k8.cells)); (try (replace k12 := k12.fr f9; (try clear r_k12); have r_k12 := k12.cells)))
      | ((with_reducible refine gate_dst (N := 43) rfl ?_); refine wpList_lookv rfl _ _ rfl Try.underlying166 Try.underlying3 rfl m2 (fr.toNat - 1) LI.out x HX.out _ rfl (by omega) ?_)
      | ((with_reducible refine gate_dst (N := 49) rfl ?_); refine wpList_lookv rfl _ _ rfl Try.underlying166 Try.underlying3 rfl m2 (fr.toNat - 1) LI.out x HX.out _ rfl (by omega) ?_)
      | ((with_reducible refine gate_map rfl ?_); refine wpList_mapset rfl _ _ _ rfl Try.underlying166 Try.underlying3 rfl m2 (fr.toNat - 1) LI.out _ (x - s) rfl rfl (by omega) ?_; intro w9 h9 c9; rw [HY.out] at h9; have z9 := c9.size; replace f := f.own c9 (fun q hq => by have := List.mem_singleton.1 hq; omega); replace m2 := h9; clear h9; replace m1 := m1.chg c9 (fun hm => by have := List.mem_singleton.1 hm; omega); replace k4 := k4.chg c9 (fun hm => by have := List.mem_singleton.1 hm; omega); replace k8 := k8.chg c9 (fun hm => by have := List.mem_singleton.1 hm; omega); replace k12 := k12.chg c9 (fun hm => by have := List.mem_singleton.1 hm; omega); (try clear r_k4); (try clear r_k8); (try clear r_k12); have r_k12 := k12.cells)
      | ((with_reducible refine gate_dst (N := 59) rfl ?_); refine wpList_bload k12 rfl _ _ rfl 0 3 rfl _ Try.underlying168 rfl size168 (by simp) #[.map (some g1), .map (some g2), .int .i64 b.locked] rfl ?_)
      | (go_at_call 150; (with_reducible refine (ledgerBank_c _ g1 g2 b.own ys b.locked m1 m2 LZ.out hI).mono ?_); rintro e w9 ⟨_, F, rfl, ⟨o1, o2, F1, F2, rfl, rfl, ho1, ho2, _⟩, hn, hb0, f9⟩; have hb1 := fun g hg => hb0 g (List.mem_append_left _ hg); have hb2 := fun g hg => hb0 g (List.mem_append_right _ hg); have hu1 := ho1.lt; have hu2 := ho2.lt; have z9 := f9.size; replace f := f.trans f9; (try replace m1 := m1.fr f9); (try replace m2 := m2.fr f9); (try replace ho1 := ho1.fr f9); (try replace ho2 := ho2.fr f9); (try (replace k4 := k4.fr f9; (try clear r_k4); have r_k4 := k4.cells)); (try (replace k8 := k8.fr f9; (try clear r_k8); have r_k8 := k8.cells)); (try (replace k12 := k12.fr f9; (try clear r_k12); have r_k12 := k12.cells)))
      | ((with_reducible refine gate_store (p := 8) rfl ?_); refine wpList_bstore k8 rfl _ _ _ rfl 0 3 rfl (.agg #[o1, o2, .int .i64 b.locked]) rfl #[o1, o2, .int .i64 b.locked] rfl rfl size26 (by simp) (by intro u hu; simp at hu; rcases hu with rfl | rfl | rfl; exact ho1.one; exact ho2.one; rfl) #[o1, o2, .int .i64 b.locked] rfl ?_; intro w9 k9 c9; have z9 := c9.size; replace f := f.own c9 (fun q hq => by have := List.mem_singleton.1 hq; have := f.size; omega); (try replace ho1 := ho1.chg c9 (fun q hq hm => by have := hb1 q hq; have := hu1 q hq; have := List.mem_singleton.1 hm; omega)); (try replace ho2 := ho2.chg c9 (fun q hq hm => by have := hb2 q hq; have := hu2 q hq; have := List.mem_singleton.1 hm; omega)); (try (replace k4 := k4.chg c9 (fun hm => by have := List.mem_singleton.1 hm; omega); (try clear r_k4); have r_k4 := k4.cells)); (try (replace k12 := k12.chg c9 (fun hm => by have := List.mem_singleton.1 hm; omega); (try clear r_k12); have r_k12 := k12.cells)); replace k8 := k9; clear k9; (try clear r_k8); have r_k8 := k8.cells))
    exact bodyPost_ret (v := .tuple #[.agg #[o1, o2, .int .i64 b.locked], .bool true]) (results_cell_row2 rfl _ _ g_k8 _ _ _ _ rfl k8.blk Try.underlying26 rfl size26 _ rfl) rfl ⟨[o1, o2, .int .i64 b.locked], F1 ++ F2, by rw [e.out], by rw [e.out]; exact ⟨_, _, F1, F2, rfl, rfl, ho1, ho2, hI⟩, hn, lo_append (lo_mono hb1 (by omega)) (lo_mono hb2 (by omega)) (Nat.le_refl _), f⟩
end Go.Proofs.Ytapdcgjccckjeaa
namespace Go.Proofs.Ytapdcgjccckjeaa
set_option maxRecDepth 100000
set_option linter.unusedVariables false
set_option linter.unusedSimpArgs false
open Go.RowKit
def sendPk (c : Ch) (k fr t s u : Int) : Pk := ⟨(c.st.sent.length : Int) + 1, k, fr, t, s, u, c.st.vsn⟩
def sendOk (c : Ch) (k fr t s u : Int) : Bool := decide (c.st.way = 3) && (okPk (sendPk c k fr t s u) && decide (s ≤ at0 (lst c.bank k) (fr.toNat - 1)))
@[reducible] def sentCh (c : Ch) (k fr t s u : Int) : Ch := ⟨c.id, awayBk c.bank k fr s, ⟨c.st.way, c.st.vsn, c.st.want, c.st.sent ++ [sendPk c k fr t s u], c.st.live ++ [true], c.st.back ++ [false], c.st.got⟩, c.past, c.knows⟩
def sendC (c : Ch) (k fr t s u : Int) : Ch := if sendOk c k fr t s u = true then sentCh c k fr t s u else c
def sendN (c : Ch) (k fr t s u : Int) : Int := if sendOk c k fr t s u = true then (c.st.sent.length : Int) + 1 else 0
theorem okPk_ok64 {p : Pk} (h : okPk p = true) : p.ok64 := by
  simp only [okPk, Bool.and_eq_true, decide_eq_true_eq] at h
  unfold Pk.ok64
  omega
theorem okPk_bd {p : Pk} (h : okPk p = true) : (1 ≤ p.kind ∧ p.kind ≤ 2) ∧ (1 ≤ p.frm ∧ p.frm ≤ 3) ∧ (1 ≤ p.sum ∧ p.sum ≤ 9) := by
  simp only [okPk, Bool.and_eq_true, decide_eq_true_eq] at h
  omega
theorem PacketOk_7 (w : World) (a b c d e f g : Int) {r : Bool} (h : okPk ⟨a, b, c, d, e, f, g⟩ = r) : Calls Try.prog 118 #[.agg #[.int .i64 a, .int .i64 b, .int .i64 c, .int .i64 d, .int .i64 e, .int .i64 f, .int .i64 g]] w (Ret (.bool r) w) := h ▸ PacketOk_l w ⟨a, b, c, d, e, f, g⟩
theorem sPacketOk_7 (w : World) (a b c d e f g : Int) {r : Bool} (h : okPk ⟨a, b, c, d, e, f, g⟩ = r) : Calls Try.prog 116 #[.agg #[.int .i64 a, .int .i64 b, .int .i64 c, .int .i64 d, .int .i64 e, .int .i64 f, .int .i64 g]] w (Ret (.bool r) w) := h ▸ sPacketOk_l w ⟨a, b, c, d, e, f, g⟩
theorem l1Away_yes (w : World) (b : Bk) (cs : List Value) (F : List Nat) (h : tBk.own w b cs F ∧ F.Nodup) (hok : okBk b = true) (k fr s : Int) (hk : 1 ≤ k ∧ k ≤ 2) (hf : 1 ≤ fr ∧ fr ≤ 3) (hs : 1 ≤ s ∧ s ≤ 9) (hle : s ≤ at0 (lst b k) (fr.toNat - 1)) :
    Calls Try.prog 132 #[.agg cs.toArray, .int .i64 k, .int .i64 fr, .int .i64 s] w (RetIn tBk (awayBk b k fr s) true F w) := by
  have := l1Away_c w b cs F h.1 h.2 hok k fr s hk hf (by omega) (by omega)
  rwa [if_pos hle, decide_eq_true hle] at this
theorem at0_at {xs : List Int} {m : Nat} (h : m < xs.length) : at0 xs (((m : Int) + 1).toNat - 1) = xs[m] := by
  have : ((m : Int) + 1).toNat - 1 = m := by omega
  rw [this]
  exact (at0_get h).symm
set_option maxHeartbeats 3200000 in
theorem l1Away_no (w : World) (b : Bk) (c1 : List Value) (h1 : tBk.rd w b c1) (hok : okBk b = true) (k fr s : Int) (hk : 1 ≤ k ∧ k ≤ 2) (hf : 1 ≤ fr ∧ fr ≤ 3) (hle : at0 (lst b k) (fr.toNat - 1) < s) :
    Calls Try.prog 132 #[.agg c1.toArray, .int .i64 k, .int .i64 fr, .int .i64 s] w (Ret (.tuple #[.agg c1.toArray, .bool false]) w) := by
  obtain ⟨v1, v2, rfl, h11, h12, h13⟩ := h1
  obtain ⟨l1, l2⟩ := okBk_len hok
  obtain ⟨m, rfl⟩ : ∃ m : Nat, fr = (m : Int) + 1 := ⟨(fr - 1).toNat, by omega⟩
  have hm : m < 3 := by omega
  have S := Sep.start w
  have p0 : (0 : Int) ≤ (m : Int) := Int.natCast_nonneg _
  have w1 : IntKind.i64.wrap ((m : Int) + 1 - 1) = (m : Int) := by rw [Int.add_sub_cancel]; exact IntWalk.i64_in _ (by omega)
  have w2 : IntKind.i64.wrap (m : Int) = (m : Int) := IntWalk.i64_in _ (by omega)
  obtain ⟨A1, n1, rfl⟩ := h11.val
  obtain ⟨A2, n2, rfl⟩ := h12.val
  rcases (by omega : k = 1 ∨ k = 2) with rfl | rfl
  · have hlt : m < b.own.length := by omega
    rw [show lst b 1 = b.own from rfl, at0_at hlt] at hle
    obtain ⟨ad, rfl, g1⟩ := row_int_at h11 m hlt
    obtain ⟨x, hx⟩ : ∃ x, b.own[m] = x := ⟨_, rfl⟩
    rw [hx] at g1 hle
    have G1 := Lib.hid g1
    have p1 : (m : Int) < (b.own.length : Int) := by omega
    have d1 : decide (x < s) = true := decide_eq_true (by omega)
    clear hx g1 hle hok hk hf l1 l2 hm
    go_enter Try.func132, Try.ntmps132
    go_wp2_with (first
      | (go_at_call 147; (with_reducible refine (l1List1_c _ (.slice (some ad) b.own.length n1) (.slice A2 b.notes.length n2) (.int .i64 b.locked)).mono ?_); rintro e w9 ⟨rfl, f9⟩; replace S := S.fr f9; clear f9)
      | ((with_reducible refine gate_dst (N := 18) rfl ?_); refine aRc (S.frame.cell G1.out) ?_)
      | ((with_reducible refine gate_box rfl ?_); refine aBx S ?_; clear S; intro g9 w9 z9 S) | ((with_reducible refine gate_alloc rfl ?_); refine aAl S ?_; clear S; intro g9 w9 z9 S) | ((with_reducible refine gate_load rfl ?_); first | refine aLd S ?_ | refine aPt S ?_ | refine aL1 S ?_) | ((with_reducible refine gate_st rfl ?_); (first | refine aS1 S ?_ | refine aSt S ?_ | refine aSp S ?_); clear S; intro w9 S))
    (refine Sep.ret1_1 S rfl rfl memA Try.underlying26 rfl ts26 rfl rfl ?_)
    exact ⟨rfl, S.frame⟩
  · have hlt : m < b.notes.length := by omega
    rw [show lst b 2 = b.notes from rfl, at0_at hlt] at hle
    obtain ⟨ad, rfl, g1⟩ := row_int_at h12 m hlt
    obtain ⟨x, hx⟩ : ∃ x, b.notes[m] = x := ⟨_, rfl⟩
    rw [hx] at g1 hle
    have G1 := Lib.hid g1
    have p1 : (m : Int) < (b.notes.length : Int) := by omega
    have d1 : decide (x < s) = true := decide_eq_true (by omega)
    clear hx g1 hle hok hk hf l1 l2 hm
    go_enter Try.func132, Try.ntmps132
    go_wp2_with (first
      | (go_at_call 147; (with_reducible refine (l1List2_c _ (.slice A1 b.own.length n1) (.slice (some ad) b.notes.length n2) (.int .i64 b.locked) 2 (by decide)).mono ?_); rintro e w9 ⟨rfl, f9⟩; replace S := S.fr f9; clear f9)
      | ((with_reducible refine gate_dst (N := 18) rfl ?_); refine aRc (S.frame.cell G1.out) ?_)
      | ((with_reducible refine gate_box rfl ?_); refine aBx S ?_; clear S; intro g9 w9 z9 S) | ((with_reducible refine gate_alloc rfl ?_); refine aAl S ?_; clear S; intro g9 w9 z9 S) | ((with_reducible refine gate_load rfl ?_); first | refine aLd S ?_ | refine aPt S ?_ | refine aL1 S ?_) | ((with_reducible refine gate_st rfl ?_); (first | refine aS1 S ?_ | refine aSt S ?_ | refine aSp S ?_); clear S; intro w9 S))
    (refine Sep.ret1_1 S rfl rfl memA Try.underlying26 rfl ts26 rfl rfl ?_)
    exact ⟨rfl, S.frame⟩
theorem BankAway_yes (w : World) (b : Bk) (c1 : List Value) (h1 : tBk.rd w b c1) (hok : okBk b = true) (k fr s : Int) (hk : 1 ≤ k ∧ k ≤ 2) (hf : 1 ≤ fr ∧ fr ≤ 3) (hs : 1 ≤ s ∧ s ≤ 9) (hle : s ≤ at0 (lst b k) (fr.toNat - 1)) :
    Calls Try.prog 133 #[.agg c1.toArray, .int .i64 k, .int .i64 fr, .int .i64 s] w (RetOwn2 tBk (awayBk b k fr s, true) w) :=
  awayR_yes hok hk hf (by omega) hle ▸ BankAway_c w b c1 h1 k fr s (by unfold I64; omega) (by unfold I64; omega) (by unfold I64; omega)
theorem BankAway_no (w : World) (b : Bk) (c1 : List Value) (h1 : tBk.rd w b c1) (hok : okBk b = true) (k fr s : Int) (hk : 1 ≤ k ∧ k ≤ 2) (hf : 1 ≤ fr ∧ fr ≤ 3) (hs : 1 ≤ s ∧ s ≤ 9) (hle : at0 (lst b k) (fr.toNat - 1) < s) :
    Calls Try.prog 133 #[.agg c1.toArray, .int .i64 k, .int .i64 fr, .int .i64 s] w (RetOwn2 tBk (nilBk, false) w) :=
  awayR_no hok hk hf (show 0 ≤ s by omega) (show ¬ s ≤ at0 (lst b k) (fr.toNat - 1) by omega) ▸ BankAway_c w b c1 h1 k fr s (by unfold I64; omega) (by unfold I64; omega) (by unfold I64; omega)
theorem sendC_no {c : Ch} {k fr t s u : Int} (h : sendOk c k fr t s u = false) : sendC c k fr t s u = c := by unfold sendC; rw [h]; rfl
theorem sendN_no {c : Ch} {k fr t s u : Int} (h : sendOk c k fr t s u = false) : sendN c k fr t s u = 0 := by unfold sendN; rw [h]; rfl
theorem sendC_yes {c : Ch} {k fr t s u : Int} (h : sendOk c k fr t s u = true) : sendC c k fr t s u = sentCh c k fr t s u := by unfold sendC; rw [h]; rfl
theorem sendN_yes {c : Ch} {k fr t s u : Int} (h : sendOk c k fr t s u = true) : sendN c k fr t s u = (c.st.sent.length : Int) + 1 := by unfold sendN; rw [h]; rfl
theorem el_pk {p : Pk} (h : p.ok64) : ∀ w, tPk.elems w [p] p.cells [] := fun _ => Ty.elems.single ⟨⟨rfl, h⟩, rfl⟩
theorem el_bool (b : Bool) : ∀ w, tBool.elems w [b] [.bool b] [] := fun w => Ty.elems.single (tBool_plain (w := w) rfl w)
theorem Sep.shapeBk {F0 : List Nat} {w0 w : World} {L : List Asrt} {b : Bk} {cs : List Value} {F : List Nat} (S : Sep F0 w0 L w) (h : aOwn tBk b cs F ∈ L) : ∃ A1 c1 A2 c2, cs = [.slice A1 b.own.length c1, .slice A2 b.notes.length c2, .int .i64 b.locked] := by
  obtain ⟨v1, v2, F1, F2, e, _, h1, h2, _⟩ := S.own h
  obtain ⟨A1, c1, rfl⟩ := h1.row.val
  obtain ⟨A2, c2, rfl⟩ := h2.row.val
  exact ⟨A1, c1, A2, c2, e⟩
set_option maxHeartbeats 6400000 in
theorem l12Send_c (w : World) (c : Ch) (c1 : List Value) (F : List Nat) (h : (aOwn tCh c c1 F).ok w ∧ F.Nodup) (hc : okCh c = true) (k fr t s u : Int) :
    Calls Try.prog 106 #[.agg c1.toArray, .int .i64 k, .int .i64 fr, .int .i64 t, .int .i64 s, .int .i64 u] w fun e w' => ∃ cs F', e = .returned (.tuple #[.agg cs.toArray, .int .i64 (sendN c k fr t s u), .bool (sendOk c k fr t s u)]) ∧ Sep F w [aOwn tCh (sendC c k fr t s u) cs F'] w' := by
  have S := Sep.startCh h
  obtain ⟨b1, b2, s1, s2, s3, s4, A1, n1, A2, n2, F1, F2, F3, F4, rfl, rfl, h15, S9⟩ := S.openCh
  replace S := S9
  clear S9 h
  obtain ⟨A6, n6, A7, n7, A8, n8, A9, n9, e1⟩ := S.shapeSt (.tail _ (.head _))
  simp only [List.cons.injEq, and_true, true_and] at e1
  obtain ⟨rfl, rfl, rfl, rfl⟩ := e1
  obtain ⟨B1, k1, B2, k2, e1⟩ := S.shapeBk List.mem_cons_self
  simp only [List.cons.injEq, and_true, true_and] at e1
  obtain ⟨rfl, rfl⟩ := e1
  obtain ⟨q1, q2, q3, q4, q5, q6⟩ := okCh_parts hc
  have ll := okSt_len q3
  have HB := Lib.hid q2
  have pw : IntKind.i64.wrap ((c.st.sent.length : Int) + 1) = (c.st.sent.length : Int) + 1 := IntWalk.i64_in _ (by omega)
  clear hc q1 q2 q3 q4 q5 q6
  by_cases e1 : c.st.way = 3
  case neg =>
    have E0 := (show sendOk c k fr t s u = false by unfold sendOk; rw [decide_eq_false e1]; rfl)
    have E1 := Lib.hid E0
    have E2 := Lib.hid (sendN_no E0)
    have E3 := Lib.hid (sendC_no E0)
    clear E0
    have d1 : (c.st.way != 3) = true := by simpa using e1
    clear e1 ll
    go_enter Try.func106, Try.ntmps106
    go_wp2_with (first | ((with_reducible refine gate_box rfl ?_); refine aBx S ?_; clear S; intro g9 w9 z9 S) | ((with_reducible refine gate_alloc rfl ?_); refine aAl S ?_; clear S; intro g9 w9 z9 S) | ((with_reducible refine gate_load rfl ?_); first | refine aLd S ?_ | refine aPt S ?_ | refine aL1 S ?_) | ((with_reducible refine gate_st rfl ?_); (first | refine aS1 S ?_ | refine aSt S ?_ | refine aSp S ?_); clear S; intro w9 S))
    have S := Sep.shutCh' (S.front4 (a1 := aOwn tBk _ _ _) (a2 := aOwn tSt _ _ _) (a3 := aRow tSt _ _ _ _) (a4 := aRow tInt _ _ _ _)) h15
    (refine Sep.ret1_2 S rfl rfl memA Try.underlying33 rfl ts33 rfl rfl rfl ?_)
    rw [E1.out, E2.out, E3.out]
    exact ⟨_, _, rfl, S.left [_]⟩
  have d1 : (c.st.way != 3) = false := by simpa using e1
  cases hp : okPk (sendPk c k fr t s u) with
  | false =>
    have E0 := (show sendOk c k fr t s u = false by unfold sendOk; rw [hp, Bool.false_and, Bool.and_false])
    have E1 := Lib.hid E0
    have E2 := Lib.hid (sendN_no E0)
    have E3 := Lib.hid (sendC_no E0)
    clear E0
    have HP := Lib.hid (show okPk ⟨(c.st.sent.length : Int) + 1, k, fr, t, s, u, c.st.vsn⟩ = false from hp)
    clear e1 ll hp
    go_enter Try.func106, Try.ntmps106
    go_wp2_with (first
      | (go_at_call 116; (with_reducible refine (sPacketOk_7 _ _ _ _ _ _ _ _ HP.out).mono ?_); rintro e w9 ⟨rfl, f9⟩; replace S := S.fr f9; clear f9)
      | ((with_reducible refine gate_box rfl ?_); refine aBx S ?_; clear S; intro g9 w9 z9 S) | ((with_reducible refine gate_alloc rfl ?_); refine aAl S ?_; clear S; intro g9 w9 z9 S) | ((with_reducible refine gate_load rfl ?_); first | refine aLd S ?_ | refine aPt S ?_ | refine aL1 S ?_) | ((with_reducible refine gate_st rfl ?_); (first | refine aS1 S ?_ | refine aSt S ?_ | refine aSp S ?_); clear S; intro w9 S))
    have S := Sep.shutCh' (S.front4 (a1 := aOwn tBk _ _ _) (a2 := aOwn tSt _ _ _) (a3 := aRow tSt _ _ _ _) (a4 := aRow tInt _ _ _ _)) h15
    (refine Sep.ret1_2 S rfl rfl memA Try.underlying33 rfl ts33 rfl rfl rfl ?_)
    rw [E1.out, E2.out, E3.out]
    exact ⟨_, _, rfl, S.left [_]⟩
  | true =>
  have HP := Lib.hid (show okPk ⟨(c.st.sent.length : Int) + 1, k, fr, t, s, u, c.st.vsn⟩ = true from hp)
  have H6 := Lib.hid (okPk_ok64 hp)
  obtain ⟨z1, z2, z3⟩ := okPk_bd hp
  have Z1 := Lib.hid (show 1 ≤ k ∧ k ≤ 2 from z1)
  have Z2 := Lib.hid (show 1 ≤ fr ∧ fr ≤ 3 from z2)
  have Z3 := Lib.hid (show 1 ≤ s ∧ s ≤ 9 from z3)
  clear z1 z2 z3
  by_cases hle : s ≤ at0 (lst c.bank k) (fr.toNat - 1)
  case neg =>
    have E0 := (show sendOk c k fr t s u = false by unfold sendOk; rw [decide_eq_false hle, Bool.and_false, Bool.and_false])
    have E1 := Lib.hid E0
    have E2 := Lib.hid (sendN_no E0)
    have E3 := Lib.hid (sendC_no E0)
    clear E0
    have HL := Lib.hid (show at0 (lst c.bank k) (fr.toNat - 1) < s by omega)
    clear e1 ll hp hle
    go_enter Try.func106, Try.ntmps106
    go_wp2_with (first
      | (go_at_call 116; (with_reducible refine (sPacketOk_7 _ _ _ _ _ _ _ _ HP.out).mono ?_); rintro e w9 ⟨rfl, f9⟩; replace S := S.fr f9; clear f9)
      | (go_at_call 132; (with_reducible refine (l1Away_no _ c.bank _ (S.rd (F := F1) memA) HB.out _ _ _ Z1.out Z2.out HL.out).mono ?_); rintro e w9 ⟨rfl, f9⟩; replace S := S.fr f9; clear f9)
      | ((with_reducible refine gate_box rfl ?_); refine aBx S ?_; clear S; intro g9 w9 z9 S) | ((with_reducible refine gate_alloc rfl ?_); refine aAl S ?_; clear S; intro g9 w9 z9 S) | ((with_reducible refine gate_load rfl ?_); first | refine aLd S ?_ | refine aPt S ?_ | refine aL1 S ?_) | ((with_reducible refine gate_st rfl ?_); (first | refine aS1 S ?_ | refine aSt S ?_ | refine aSp S ?_); clear S; intro w9 S))
    have S := Sep.shutCh' (S.front4 (a1 := aOwn tBk _ _ _) (a2 := aOwn tSt _ _ _) (a3 := aRow tSt _ _ _ _) (a4 := aRow tInt _ _ _ _)) h15
    (refine Sep.ret1_2 S rfl rfl memA Try.underlying33 rfl ts33 rfl rfl rfl ?_)
    rw [E1.out, E2.out, E3.out]
    exact ⟨_, _, rfl, S.left [_]⟩
  have HL := Lib.hid hle
  have l1 : c.st.sent.length + 1 ≤ 2097152 := by omega
  have l2 : c.st.live.length + 1 ≤ 2097152 := by omega
  have l3 : c.st.back.length + 1 ≤ 2097152 := by omega
  have E0 := (show sendOk c k fr t s u = true by unfold sendOk; rw [hp, decide_eq_true hle, decide_eq_true e1]; rfl)
  have E1 := Lib.hid E0
  have E2 := Lib.hid (sendN_yes E0)
  have E3 := Lib.hid (sendC_yes E0)
  clear E0
  clear e1 ll hp hle
  go_enter Try.func106, Try.ntmps106
  go_wp2_with (first
    | ((with_reducible refine gate_dst (N := 15) rfl ?_); refine aAl S ?_; clear S; intro gP w9 z9 S)
    | (go_at_call 116; (with_reducible refine (sPacketOk_7 _ _ _ _ _ _ _ _ HP.out).mono ?_); rintro e w9 ⟨rfl, f9⟩; replace S := S.fr f9; clear f9)
    | (go_at_call 132; (with_reducible refine (l1Away_yes _ c.bank _ F1 (S.both memA) HB.out _ _ _ Z1.out Z2.out Z3.out HL.out).mono ?_); rintro e w9 ⟨cs9, rfl, h9, c9⟩; replace S := S.putOwn putA h9 c9; clear h9 c9; replace S := S.pull (a := aOwn tSt c.st _ F2) delA; obtain ⟨B6, m6, B7, m7, B8, m8, B9, m9, Y6, Y7, Y8, Y9, e1, rfl, J9, S9⟩ := S.openSt; simp only [List.cons.injEq, and_true, true_and, Value.slice.injEq] at e1; obtain ⟨⟨rfl, rfl⟩, ⟨rfl, rfl⟩, ⟨rfl, rfl⟩, ⟨rfl, rfl⟩⟩ := e1; replace S := S9; clear S9; replace S := S.pull (a := aOwn tBk (awayBk c.bank k fr s) _ F1) delA; obtain ⟨x1, x2, Y1, Y2, rfl, rfl, I9, S9⟩ := S.openBk; replace S := S9; clear S9)
    | ((with_reducible refine gate_dst (N := 60) rfl ?_); refine aLitP (d := tPk) [sendPk c k fr t s u] 88 (sendPk c k fr t s u).cells S (el_pk H6.out) 1 rfl (by decide) ?_; clear S; intro g60 w9 z9 S)
    | ((with_reducible refine gate_dst (N := 61) rfl ?_); refine aApO (d := tPk) (xs := c.st.sent) (ys := [sendPk c k fr t s u]) (us := c.st.sent ++ [sendPk c k fr t s u]) S delA delA (.inl (by decide)) l1 ?_; clear S; intro A61 c61 F61 w9 S)
    | ((with_reducible refine gate_dst (N := 67) rfl ?_); refine aLitP (d := tBool) [true] 4 [.bool true] S (el_bool true) 1 rfl (by decide) ?_; clear S; intro g67 w9 z9 S)
    | ((with_reducible refine gate_dst (N := 68) rfl ?_); refine aApO (d := tBool) (xs := c.st.live) (ys := [true]) (us := c.st.live ++ [true]) S delA delA (.inl (by decide)) l2 ?_; clear S; intro A68 c68 F68 w9 S)
    | ((with_reducible refine gate_dst (N := 74) rfl ?_); refine aLitP (d := tBool) [false] 4 [.bool false] S (el_bool false) 1 rfl (by decide) ?_; clear S; intro g74 w9 z9 S)
    | ((with_reducible refine gate_dst (N := 75) rfl ?_); refine aApO (d := tBool) (xs := c.st.back) (ys := [false]) (us := c.st.back ++ [false]) S delA delA (.inl (by decide)) l3 ?_; clear S; intro A75 c75 F75 w9 S)
    | ((with_reducible refine gate_box rfl ?_); refine aBx S ?_; clear S; intro g9 w9 z9 S) | ((with_reducible refine gate_alloc rfl ?_); refine aAl S ?_; clear S; intro g9 w9 z9 S) | ((with_reducible refine gate_load rfl ?_); first | refine aLd S ?_ | refine aPt S ?_ | refine aL1 S ?_) | ((with_reducible refine gate_st rfl ?_); (first | refine aS1 S ?_ | refine aSt S ?_ | refine aSp S ?_); clear S; intro w9 S))
  have S0 := (Sep.only1 (a1 := aBox gP 88 _ _) S delA)
  refine wp_region_noPanic ?_
  refine wp_region_held_drew (S := Sep _ _ _) (by kernel_rfl) S0.drew (fun _ => ?_)
  replace S := S.drew
  clear S0
  refine tk 1 ?_
  (try simp only [Act.put, List.setIfInBounds_toArray, List.set_cons_zero, List.set_cons_succ])
  refine tk 2 ?_ (hy := by exact yL1)
  (try simp only [Act.put, List.setIfInBounds_toArray, List.set_cons_zero, List.set_cons_succ])
  refine rdy1 0 (fun K hK => ?_)
  (first | refine rgLd S ?_ | refine rgPt S ?_ | refine rgL1 S ?_)
  (first | refine hK.out _ _ (S.sub subA) (fun _ => ?_) | (go_wp2_with fail; refine hK.out _ _ (S.sub subA) (fun _ => ?_)))
  clear hK K
  (try simp only [Act.put, List.setIfInBounds_toArray, List.set_cons_zero, List.set_cons_succ])
  refine rdy1 3 (fun K hK => ?_)
  (first | refine rgS1 S ?_ | refine rgSt S ?_ | refine rgSp S ?_); clear S; intro w9 S
  (first | refine hK.out _ _ (S.sub subA) (fun _ => ?_) | (go_wp2_with fail; refine hK.out _ _ (S.sub subA) (fun _ => ?_)))
  clear hK K
  (try simp only [Act.put, List.setIfInBounds_toArray, List.set_cons_zero, List.set_cons_succ])
  refine tk 4 ?_
  (try simp only [Act.put, List.setIfInBounds_toArray, List.set_cons_zero, List.set_cons_succ])
  refine tk 5 ?_
  (try simp only [Act.put, List.setIfInBounds_toArray, List.set_cons_zero, List.set_cons_succ])
  refine wpAnyH_done (by kernel_rfl) ?_ _
  refine NoPanic.normal ?_
  go_wp2
  simp only [List.length_append, List.length_singleton] at S
  have S := S.allCh (sentCh c k fr t s u) I9 J9 h15
  (refine Sep.ret1_2 S rfl rfl memA Try.underlying33 rfl ts33 rfl rfl rfl ?_)
  rw [E1.out, E2.out, E3.out]
  exact ⟨_, _, rfl, S.left [_]⟩
end Go.Proofs.Ytapdcgjccckjeaa
namespace Go.Proofs.Ytapdcgjccckjeaa
set_option maxRecDepth 100000
set_option linter.unusedVariables false
set_option linter.unusedSimpArgs false
open Go.RowKit
set_option maxHeartbeats 12800000 in
theorem send_c (w : World) (g : Nat) (c : Ch) (F : List Nat) (h : (aLnk g c F).ok w ∧ F.Nodup) (hc : okCh c = true) (k fr t s u : Int) :
    Calls Try.prog 107 #[.pointer (some ⟨g, 0, none⟩), .int .i64 k, .int .i64 fr, .int .i64 t, .int .i64 s, .int .i64 u] w fun e w' => e = .returned (.tuple #[.int .i64 (sendN c k fr t s u), .bool (sendOk c k fr t s u)]) ∧ ∃ F', Sep F w [aLnk g (sendC c k fr t s u) F'] w' := by
  have S := Sep.startLnk h.1 h.2
  obtain ⟨A1, m1, A2, m2, B1, n1, B2, n2, B3, n3, B4, n4, p, A5, m5, Y1, Y2, Z1, Z2, Z3, Z4, M1, K1, I9, J9, h15, S9⟩ := S.openLnk
  replace S := S9
  clear S9 h
  obtain ⟨q1, q2, q3, q4, q5, q6⟩ := okCh_parts hc
  have ll := okSt_len q3
  have HB := Lib.hid q2
  have pw : IntKind.i64.wrap ((c.st.sent.length : Int) + 1) = (c.st.sent.length : Int) + 1 := IntWalk.i64_in _ (by omega)
  clear hc q1 q2 q3 q4 q5 q6
  by_cases e1 : c.st.way = 3
  case neg =>
    have E0 := (show sendOk c k fr t s u = false by unfold sendOk; rw [decide_eq_false e1]; rfl)
    have E1 := Lib.hid E0
    have E2 := Lib.hid (sendN_no E0)
    have E3 := Lib.hid (sendC_no E0)
    clear E0
    have d1 : (c.st.way != 3) = true := by simpa using e1
    clear e1 ll
    go_enter Try.func107, Try.ntmps107
    go_wp2_with (first | ((with_reducible refine gate_box rfl ?_); refine aBx S ?_; clear S; intro g9 w9 z9 S) | ((with_reducible refine gate_alloc rfl ?_); refine aAl S ?_; clear S; intro g9 w9 z9 S) | ((with_reducible refine gate_load rfl ?_); first | refine aLd S ?_ | refine aPt S ?_ | refine aL1 S ?_) | ((with_reducible refine gate_st rfl ?_); (first | refine aS1 S ?_ | refine aSt S ?_ | refine aSp S ?_); clear S; intro w9 S))
    have S0 := (Sep.only1 (a1 := aBox g 136 _ _) S delA)
    refine wp_region_noPanic ?_
    refine wp_region_held_drew (S := Sep _ _ _) (by kernel_rfl) S0.drew (fun _ => ?_)
    replace S := S.drew
    clear S0
    refine tk 0 ?_
    (try simp only [Act.put, List.setIfInBounds_toArray, List.set_cons_zero, List.set_cons_succ])
    refine tk 1 ?_
    (try simp only [Act.put, List.setIfInBounds_toArray, List.set_cons_zero, List.set_cons_succ])
    refine tk 2 ?_
    (try simp only [Act.put, List.setIfInBounds_toArray, List.set_cons_zero, List.set_cons_succ])
    refine tk 3 ?_
    (try simp only [Act.put, List.setIfInBounds_toArray, List.set_cons_zero, List.set_cons_succ])
    refine tk 6 ?_
    (try simp only [Act.put, List.setIfInBounds_toArray, List.set_cons_zero, List.set_cons_succ])
    refine tk 7 ?_
    (try simp only [Act.put, List.setIfInBounds_toArray, List.set_cons_zero, List.set_cons_succ])
    refine tk 8 ?_
    (try simp only [Act.put, List.setIfInBounds_toArray, List.set_cons_zero, List.set_cons_succ])
    refine tk 9 ?_
    (try simp only [Act.put, List.setIfInBounds_toArray, List.set_cons_zero, List.set_cons_succ])
    refine tk 10 ?_
    (try simp only [Act.put, List.setIfInBounds_toArray, List.set_cons_zero, List.set_cons_succ])
    refine tk 11 ?_
    (try simp only [Act.put, List.setIfInBounds_toArray, List.set_cons_zero, List.set_cons_succ])
    refine tk 12 ?_
    (try simp only [Act.put, List.setIfInBounds_toArray, List.set_cons_zero, List.set_cons_succ])
    refine tk 13 ?_
    (try simp only [Act.put, List.setIfInBounds_toArray, List.set_cons_zero, List.set_cons_succ])
    refine tk 14 ?_
    (try simp only [Act.put, List.setIfInBounds_toArray, List.set_cons_zero, List.set_cons_succ])
    refine rdys [4, 16] ?_
    refine rdc 4 (fun K hK => ?_) ?_
    · go_simp
      (first | refine hK.out _ _ (S.sub subA) (fun _ => ?_) | (go_wp2_with fail; refine hK.out _ _ (S.sub subA) (fun _ => ?_)))
      clear hK K
      (try simp only [Act.put, List.setIfInBounds_toArray, List.set_cons_zero, List.set_cons_succ])
      refine tk 5 ?_
      (try simp only [Act.put, List.setIfInBounds_toArray, List.set_cons_zero, List.set_cons_succ])
      refine tk 15 ?_
      (try simp only [Act.put, List.setIfInBounds_toArray, List.set_cons_zero, List.set_cons_succ])
      refine rdy1 16 (fun K hK => ?_)
      refine rgAl S ?_; clear S; intro gP w9 z9 S
      (first | refine hK.out _ _ (S.sub subA) (fun _ => ?_) | (go_wp2_with fail; refine hK.out _ _ (S.sub subA) (fun _ => ?_)))
      clear hK K
      (try simp only [Act.put, List.setIfInBounds_toArray, List.set_cons_zero, List.set_cons_succ])
      refine rdy1 17 (fun K hK => ?_)
      (first | refine rgS1 S ?_ | refine rgSt S ?_ | refine rgSp S ?_); clear S; intro w9 S
      (first | refine hK.out _ _ (S.sub subA) (fun _ => ?_) | (go_wp2_with fail; refine hK.out _ _ (S.sub subA) (fun _ => ?_)))
      clear hK K
      (try simp only [Act.put, List.setIfInBounds_toArray, List.set_cons_zero, List.set_cons_succ])
      refine wpAnyH_done (by kernel_rfl) ?_ _
      refine NoPanic.normal ?_
      go_wp2_with (first | ((with_reducible refine gate_box rfl ?_); refine aBx S ?_; clear S; intro g9 w9 z9 S) | ((with_reducible refine gate_alloc rfl ?_); refine aAl S ?_; clear S; intro g9 w9 z9 S) | ((with_reducible refine gate_load rfl ?_); first | refine aLd S ?_ | refine aPt S ?_ | refine aL1 S ?_) | ((with_reducible refine gate_st rfl ?_); (first | refine aS1 S ?_ | refine aSt S ?_ | refine aSp S ?_); clear S; intro w9 S))
      have S := S.allLnk c I9 J9 h15
      refine bodyPost_ret (results_tmp2 rfl _ _ _) rfl ?_
      rw [E1.out, E2.out, E3.out]
      exact ⟨rfl, _, S.left [_]⟩
    refine rdc 16 (fun K hK => ?_) AllReadyH.nil
    refine rgAl S ?_; clear S; intro gP w9 z9 S
    (first | refine hK.out _ _ (S.sub subA) (fun _ => ?_) | (go_wp2_with fail; refine hK.out _ _ (S.sub subA) (fun _ => ?_)))
    clear hK K
    (try simp only [Act.put, List.setIfInBounds_toArray, List.set_cons_zero, List.set_cons_succ])
    refine rdy1 4 (fun K hK => ?_)
    go_simp
    (first | refine hK.out _ _ (S.sub subA) (fun _ => ?_) | (go_wp2_with fail; refine hK.out _ _ (S.sub subA) (fun _ => ?_)))
    clear hK K
    (try simp only [Act.put, List.setIfInBounds_toArray, List.set_cons_zero, List.set_cons_succ])
    refine tk 5 ?_
    (try simp only [Act.put, List.setIfInBounds_toArray, List.set_cons_zero, List.set_cons_succ])
    refine tk 15 ?_
    (try simp only [Act.put, List.setIfInBounds_toArray, List.set_cons_zero, List.set_cons_succ])
    refine rdy1 17 (fun K hK => ?_)
    (first | refine rgS1 S ?_ | refine rgSt S ?_ | refine rgSp S ?_); clear S; intro w9 S
    (first | refine hK.out _ _ (S.sub subA) (fun _ => ?_) | (go_wp2_with fail; refine hK.out _ _ (S.sub subA) (fun _ => ?_)))
    clear hK K
    (try simp only [Act.put, List.setIfInBounds_toArray, List.set_cons_zero, List.set_cons_succ])
    refine wpAnyH_done (by kernel_rfl) ?_ _
    refine NoPanic.normal ?_
    go_wp2_with (first | ((with_reducible refine gate_box rfl ?_); refine aBx S ?_; clear S; intro g9 w9 z9 S) | ((with_reducible refine gate_alloc rfl ?_); refine aAl S ?_; clear S; intro g9 w9 z9 S) | ((with_reducible refine gate_load rfl ?_); first | refine aLd S ?_ | refine aPt S ?_ | refine aL1 S ?_) | ((with_reducible refine gate_st rfl ?_); (first | refine aS1 S ?_ | refine aSt S ?_ | refine aSp S ?_); clear S; intro w9 S))
    have S := S.allLnk c I9 J9 h15
    refine bodyPost_ret (results_tmp2 rfl _ _ _) rfl ?_
    rw [E1.out, E2.out, E3.out]
    exact ⟨rfl, _, S.left [_]⟩
  have d1 : (c.st.way != 3) = false := by simpa using e1
  cases hp : okPk (sendPk c k fr t s u) with
  | false =>
    have E0 := (show sendOk c k fr t s u = false by unfold sendOk; rw [hp, Bool.false_and, Bool.and_false])
    have E1 := Lib.hid E0
    have E2 := Lib.hid (sendN_no E0)
    have E3 := Lib.hid (sendC_no E0)
    clear E0
    have HP := Lib.hid (show okPk ⟨(c.st.sent.length : Int) + 1, k, fr, t, s, u, c.st.vsn⟩ = false from hp)
    clear e1 ll hp
    go_enter Try.func107, Try.ntmps107
    go_wp2_with (first | ((with_reducible refine gate_box rfl ?_); refine aBx S ?_; clear S; intro g9 w9 z9 S) | ((with_reducible refine gate_alloc rfl ?_); refine aAl S ?_; clear S; intro g9 w9 z9 S) | ((with_reducible refine gate_load rfl ?_); first | refine aLd S ?_ | refine aPt S ?_ | refine aL1 S ?_) | ((with_reducible refine gate_st rfl ?_); (first | refine aS1 S ?_ | refine aSt S ?_ | refine aSp S ?_); clear S; intro w9 S))
    have S0 := (Sep.only1 (a1 := aBox g 136 _ _) S delA)
    refine wp_region_noPanic ?_
    refine wp_region_held_drew (S := Sep _ _ _) (by kernel_rfl) S0.drew (fun _ => ?_)
    replace S := S.drew
    clear S0
    refine tk 0 ?_
    (try simp only [Act.put, List.setIfInBounds_toArray, List.set_cons_zero, List.set_cons_succ])
    refine tk 1 ?_
    (try simp only [Act.put, List.setIfInBounds_toArray, List.set_cons_zero, List.set_cons_succ])
    refine tk 2 ?_
    (try simp only [Act.put, List.setIfInBounds_toArray, List.set_cons_zero, List.set_cons_succ])
    refine tk 3 ?_
    (try simp only [Act.put, List.setIfInBounds_toArray, List.set_cons_zero, List.set_cons_succ])
    refine tk 6 ?_
    (try simp only [Act.put, List.setIfInBounds_toArray, List.set_cons_zero, List.set_cons_succ])
    refine tk 7 ?_
    (try simp only [Act.put, List.setIfInBounds_toArray, List.set_cons_zero, List.set_cons_succ])
    refine tk 8 ?_
    (try simp only [Act.put, List.setIfInBounds_toArray, List.set_cons_zero, List.set_cons_succ])
    refine tk 9 ?_
    (try simp only [Act.put, List.setIfInBounds_toArray, List.set_cons_zero, List.set_cons_succ])
    refine tk 10 ?_
    (try simp only [Act.put, List.setIfInBounds_toArray, List.set_cons_zero, List.set_cons_succ])
    refine tk 11 ?_
    (try simp only [Act.put, List.setIfInBounds_toArray, List.set_cons_zero, List.set_cons_succ])
    refine tk 12 ?_
    (try simp only [Act.put, List.setIfInBounds_toArray, List.set_cons_zero, List.set_cons_succ])
    refine tk 13 ?_
    (try simp only [Act.put, List.setIfInBounds_toArray, List.set_cons_zero, List.set_cons_succ])
    refine tk 14 ?_
    (try simp only [Act.put, List.setIfInBounds_toArray, List.set_cons_zero, List.set_cons_succ])
    refine rdys [4, 16] ?_
    refine rdc 4 (fun K hK => ?_) ?_
    · go_simp
      (first | refine hK.out _ _ (S.sub subA) (fun _ => ?_) | (go_wp2_with fail; refine hK.out _ _ (S.sub subA) (fun _ => ?_)))
      clear hK K
      (try simp only [Act.put, List.setIfInBounds_toArray, List.set_cons_zero, List.set_cons_succ])
      refine tk 5 ?_
      (try simp only [Act.put, List.setIfInBounds_toArray, List.set_cons_zero, List.set_cons_succ])
      refine tk 15 ?_
      (try simp only [Act.put, List.setIfInBounds_toArray, List.set_cons_zero, List.set_cons_succ])
      refine rdy1 16 (fun K hK => ?_)
      refine rgAl S ?_; clear S; intro gP w9 z9 S
      (first | refine hK.out _ _ (S.sub subA) (fun _ => ?_) | (go_wp2_with fail; refine hK.out _ _ (S.sub subA) (fun _ => ?_)))
      clear hK K
      (try simp only [Act.put, List.setIfInBounds_toArray, List.set_cons_zero, List.set_cons_succ])
      refine rdy1 17 (fun K hK => ?_)
      (first | refine rgS1 S ?_ | refine rgSt S ?_ | refine rgSp S ?_); clear S; intro w9 S
      (first | refine hK.out _ _ (S.sub subA) (fun _ => ?_) | (go_wp2_with fail; refine hK.out _ _ (S.sub subA) (fun _ => ?_)))
      clear hK K
      (try simp only [Act.put, List.setIfInBounds_toArray, List.set_cons_zero, List.set_cons_succ])
      refine wpAnyH_done (by kernel_rfl) ?_ _
      refine NoPanic.normal ?_
      go_wp2_with (first | (go_at_call 118; (with_reducible refine (PacketOk_7 _ _ _ _ _ _ _ _ HP.out).mono ?_); rintro e w9 ⟨rfl, f9⟩; replace S := S.fr f9; clear f9) | ((with_reducible refine gate_box rfl ?_); refine aBx S ?_; clear S; intro g9 w9 z9 S) | ((with_reducible refine gate_alloc rfl ?_); refine aAl S ?_; clear S; intro g9 w9 z9 S) | ((with_reducible refine gate_load rfl ?_); first | refine aLd S ?_ | refine aPt S ?_ | refine aL1 S ?_) | ((with_reducible refine gate_st rfl ?_); (first | refine aS1 S ?_ | refine aSt S ?_ | refine aSp S ?_); clear S; intro w9 S))
      have S := S.allLnk c I9 J9 h15
      refine bodyPost_ret (results_tmp2 rfl _ _ _) rfl ?_
      rw [E1.out, E2.out, E3.out]
      exact ⟨rfl, _, S.left [_]⟩
    refine rdc 16 (fun K hK => ?_) AllReadyH.nil
    refine rgAl S ?_; clear S; intro gP w9 z9 S
    (first | refine hK.out _ _ (S.sub subA) (fun _ => ?_) | (go_wp2_with fail; refine hK.out _ _ (S.sub subA) (fun _ => ?_)))
    clear hK K
    (try simp only [Act.put, List.setIfInBounds_toArray, List.set_cons_zero, List.set_cons_succ])
    refine rdy1 4 (fun K hK => ?_)
    go_simp
    (first | refine hK.out _ _ (S.sub subA) (fun _ => ?_) | (go_wp2_with fail; refine hK.out _ _ (S.sub subA) (fun _ => ?_)))
    clear hK K
    (try simp only [Act.put, List.setIfInBounds_toArray, List.set_cons_zero, List.set_cons_succ])
    refine tk 5 ?_
    (try simp only [Act.put, List.setIfInBounds_toArray, List.set_cons_zero, List.set_cons_succ])
    refine tk 15 ?_
    (try simp only [Act.put, List.setIfInBounds_toArray, List.set_cons_zero, List.set_cons_succ])
    refine rdy1 17 (fun K hK => ?_)
    (first | refine rgS1 S ?_ | refine rgSt S ?_ | refine rgSp S ?_); clear S; intro w9 S
    (first | refine hK.out _ _ (S.sub subA) (fun _ => ?_) | (go_wp2_with fail; refine hK.out _ _ (S.sub subA) (fun _ => ?_)))
    clear hK K
    (try simp only [Act.put, List.setIfInBounds_toArray, List.set_cons_zero, List.set_cons_succ])
    refine wpAnyH_done (by kernel_rfl) ?_ _
    refine NoPanic.normal ?_
    go_wp2_with (first | (go_at_call 118; (with_reducible refine (PacketOk_7 _ _ _ _ _ _ _ _ HP.out).mono ?_); rintro e w9 ⟨rfl, f9⟩; replace S := S.fr f9; clear f9) | ((with_reducible refine gate_box rfl ?_); refine aBx S ?_; clear S; intro g9 w9 z9 S) | ((with_reducible refine gate_alloc rfl ?_); refine aAl S ?_; clear S; intro g9 w9 z9 S) | ((with_reducible refine gate_load rfl ?_); first | refine aLd S ?_ | refine aPt S ?_ | refine aL1 S ?_) | ((with_reducible refine gate_st rfl ?_); (first | refine aS1 S ?_ | refine aSt S ?_ | refine aSp S ?_); clear S; intro w9 S))
    have S := S.allLnk c I9 J9 h15
    refine bodyPost_ret (results_tmp2 rfl _ _ _) rfl ?_
    rw [E1.out, E2.out, E3.out]
    exact ⟨rfl, _, S.left [_]⟩
  | true =>
  have HP := Lib.hid (show okPk ⟨(c.st.sent.length : Int) + 1, k, fr, t, s, u, c.st.vsn⟩ = true from hp)
  have H6 := Lib.hid (okPk_ok64 hp)
  obtain ⟨z1, z2, z3⟩ := okPk_bd hp
  have ZK := Lib.hid (show 1 ≤ k ∧ k ≤ 2 from z1)
  have ZF := Lib.hid (show 1 ≤ fr ∧ fr ≤ 3 from z2)
  have ZS := Lib.hid (show 1 ≤ s ∧ s ≤ 9 from z3)
  clear z1 z2 z3
  by_cases hle : s ≤ at0 (lst c.bank k) (fr.toNat - 1)
  case neg =>
    have E0 := (show sendOk c k fr t s u = false by unfold sendOk; rw [decide_eq_false hle, Bool.and_false, Bool.and_false])
    have E1 := Lib.hid E0
    have E2 := Lib.hid (sendN_no E0)
    have E3 := Lib.hid (sendC_no E0)
    clear E0
    have HL := Lib.hid (show at0 (lst c.bank k) (fr.toNat - 1) < s by omega)
    clear e1 ll hp hle
    go_enter Try.func107, Try.ntmps107
    go_wp2_with (first | ((with_reducible refine gate_box rfl ?_); refine aBx S ?_; clear S; intro g9 w9 z9 S) | ((with_reducible refine gate_alloc rfl ?_); refine aAl S ?_; clear S; intro g9 w9 z9 S) | ((with_reducible refine gate_load rfl ?_); first | refine aLd S ?_ | refine aPt S ?_ | refine aL1 S ?_) | ((with_reducible refine gate_st rfl ?_); (first | refine aS1 S ?_ | refine aSt S ?_ | refine aSp S ?_); clear S; intro w9 S))
    have S0 := (Sep.only1 (a1 := aBox g 136 _ _) S delA)
    refine wp_region_noPanic ?_
    refine wp_region_held_drew (S := Sep _ _ _) (by kernel_rfl) S0.drew (fun _ => ?_)
    replace S := S.drew
    clear S0
    refine tk 0 ?_
    (try simp only [Act.put, List.setIfInBounds_toArray, List.set_cons_zero, List.set_cons_succ])
    refine tk 1 ?_
    (try simp only [Act.put, List.setIfInBounds_toArray, List.set_cons_zero, List.set_cons_succ])
    refine tk 2 ?_
    (try simp only [Act.put, List.setIfInBounds_toArray, List.set_cons_zero, List.set_cons_succ])
    refine tk 3 ?_
    (try simp only [Act.put, List.setIfInBounds_toArray, List.set_cons_zero, List.set_cons_succ])
    refine tk 6 ?_
    (try simp only [Act.put, List.setIfInBounds_toArray, List.set_cons_zero, List.set_cons_succ])
    refine tk 7 ?_
    (try simp only [Act.put, List.setIfInBounds_toArray, List.set_cons_zero, List.set_cons_succ])
    refine tk 8 ?_
    (try simp only [Act.put, List.setIfInBounds_toArray, List.set_cons_zero, List.set_cons_succ])
    refine tk 9 ?_
    (try simp only [Act.put, List.setIfInBounds_toArray, List.set_cons_zero, List.set_cons_succ])
    refine tk 10 ?_
    (try simp only [Act.put, List.setIfInBounds_toArray, List.set_cons_zero, List.set_cons_succ])
    refine tk 11 ?_
    (try simp only [Act.put, List.setIfInBounds_toArray, List.set_cons_zero, List.set_cons_succ])
    refine tk 12 ?_
    (try simp only [Act.put, List.setIfInBounds_toArray, List.set_cons_zero, List.set_cons_succ])
    refine tk 13 ?_
    (try simp only [Act.put, List.setIfInBounds_toArray, List.set_cons_zero, List.set_cons_succ])
    refine tk 14 ?_
    (try simp only [Act.put, List.setIfInBounds_toArray, List.set_cons_zero, List.set_cons_succ])
    refine rdys [4, 16] ?_
    refine rdc 4 (fun K hK => ?_) ?_
    · go_simp
      (first | refine hK.out _ _ (S.sub subA) (fun _ => ?_) | (go_wp2_with fail; refine hK.out _ _ (S.sub subA) (fun _ => ?_)))
      clear hK K
      (try simp only [Act.put, List.setIfInBounds_toArray, List.set_cons_zero, List.set_cons_succ])
      refine tk 5 ?_
      (try simp only [Act.put, List.setIfInBounds_toArray, List.set_cons_zero, List.set_cons_succ])
      refine tk 15 ?_
      (try simp only [Act.put, List.setIfInBounds_toArray, List.set_cons_zero, List.set_cons_succ])
      refine rdy1 16 (fun K hK => ?_)
      refine rgAl S ?_; clear S; intro gP w9 z9 S
      (first | refine hK.out _ _ (S.sub subA) (fun _ => ?_) | (go_wp2_with fail; refine hK.out _ _ (S.sub subA) (fun _ => ?_)))
      clear hK K
      (try simp only [Act.put, List.setIfInBounds_toArray, List.set_cons_zero, List.set_cons_succ])
      refine rdy1 17 (fun K hK => ?_)
      (first | refine rgS1 S ?_ | refine rgSt S ?_ | refine rgSp S ?_); clear S; intro w9 S
      (first | refine hK.out _ _ (S.sub subA) (fun _ => ?_) | (go_wp2_with fail; refine hK.out _ _ (S.sub subA) (fun _ => ?_)))
      clear hK K
      (try simp only [Act.put, List.setIfInBounds_toArray, List.set_cons_zero, List.set_cons_succ])
      refine wpAnyH_done (by kernel_rfl) ?_ _
      refine NoPanic.normal ?_
      go_wp2_with (first | (go_at_call 118; (with_reducible refine (PacketOk_7 _ _ _ _ _ _ _ _ HP.out).mono ?_); rintro e w9 ⟨rfl, f9⟩; replace S := S.fr f9; clear f9) | (go_at_call 133; (with_reducible refine (BankAway_no _ c.bank [.slice A1 c.bank.own.length m1, .slice A2 c.bank.notes.length m2, .int .i64 c.bank.locked] (tBk_mk (S.row (d := tInt) (xs := c.bank.own) (F := Y1) (e := 3) memA).row (S.row (d := tInt) (xs := c.bank.notes) (F := Y2) (e := 3) memA).row I9) HB.out _ _ _ ZK.out ZF.out ZS.out HL.out).mono ?_); rintro e w9 ⟨cs9, F9, rfl, h9, n9, b9, f9⟩; replace S := S.new (aOwn tBk _ cs9 F9) h9 n9 b9 f9; clear h9 n9 b9 f9; obtain ⟨x1, x2, X1, X2, rfl, rfl, I8, S9⟩ := S.openBk; replace S := S9; clear S9) | ((with_reducible refine gate_box rfl ?_); refine aBx S ?_; clear S; intro g9 w9 z9 S) | ((with_reducible refine gate_alloc rfl ?_); refine aAl S ?_; clear S; intro g9 w9 z9 S) | ((with_reducible refine gate_load rfl ?_); first | refine aLd S ?_ | refine aPt S ?_ | refine aL1 S ?_) | ((with_reducible refine gate_st rfl ?_); (first | refine aS1 S ?_ | refine aSt S ?_ | refine aSp S ?_); clear S; intro w9 S))
      have S := S.allLnk c I9 J9 h15
      refine bodyPost_ret (results_tmp2 rfl _ _ _) rfl ?_
      rw [E1.out, E2.out, E3.out]
      exact ⟨rfl, _, S.left [_]⟩
    refine rdc 16 (fun K hK => ?_) AllReadyH.nil
    refine rgAl S ?_; clear S; intro gP w9 z9 S
    (first | refine hK.out _ _ (S.sub subA) (fun _ => ?_) | (go_wp2_with fail; refine hK.out _ _ (S.sub subA) (fun _ => ?_)))
    clear hK K
    (try simp only [Act.put, List.setIfInBounds_toArray, List.set_cons_zero, List.set_cons_succ])
    refine rdy1 4 (fun K hK => ?_)
    go_simp
    (first | refine hK.out _ _ (S.sub subA) (fun _ => ?_) | (go_wp2_with fail; refine hK.out _ _ (S.sub subA) (fun _ => ?_)))
    clear hK K
    (try simp only [Act.put, List.setIfInBounds_toArray, List.set_cons_zero, List.set_cons_succ])
    refine tk 5 ?_
    (try simp only [Act.put, List.setIfInBounds_toArray, List.set_cons_zero, List.set_cons_succ])
    refine tk 15 ?_
    (try simp only [Act.put, List.setIfInBounds_toArray, List.set_cons_zero, List.set_cons_succ])
    refine rdy1 17 (fun K hK => ?_)
    (first | refine rgS1 S ?_ | refine rgSt S ?_ | refine rgSp S ?_); clear S; intro w9 S
    (first | refine hK.out _ _ (S.sub subA) (fun _ => ?_) | (go_wp2_with fail; refine hK.out _ _ (S.sub subA) (fun _ => ?_)))
    clear hK K
    (try simp only [Act.put, List.setIfInBounds_toArray, List.set_cons_zero, List.set_cons_succ])
    refine wpAnyH_done (by kernel_rfl) ?_ _
    refine NoPanic.normal ?_
    go_wp2_with (first | (go_at_call 118; (with_reducible refine (PacketOk_7 _ _ _ _ _ _ _ _ HP.out).mono ?_); rintro e w9 ⟨rfl, f9⟩; replace S := S.fr f9; clear f9) | (go_at_call 133; (with_reducible refine (BankAway_no _ c.bank [.slice A1 c.bank.own.length m1, .slice A2 c.bank.notes.length m2, .int .i64 c.bank.locked] (tBk_mk (S.row (d := tInt) (xs := c.bank.own) (F := Y1) (e := 3) memA).row (S.row (d := tInt) (xs := c.bank.notes) (F := Y2) (e := 3) memA).row I9) HB.out _ _ _ ZK.out ZF.out ZS.out HL.out).mono ?_); rintro e w9 ⟨cs9, F9, rfl, h9, n9, b9, f9⟩; replace S := S.new (aOwn tBk _ cs9 F9) h9 n9 b9 f9; clear h9 n9 b9 f9; obtain ⟨x1, x2, X1, X2, rfl, rfl, I8, S9⟩ := S.openBk; replace S := S9; clear S9) | ((with_reducible refine gate_box rfl ?_); refine aBx S ?_; clear S; intro g9 w9 z9 S) | ((with_reducible refine gate_alloc rfl ?_); refine aAl S ?_; clear S; intro g9 w9 z9 S) | ((with_reducible refine gate_load rfl ?_); first | refine aLd S ?_ | refine aPt S ?_ | refine aL1 S ?_) | ((with_reducible refine gate_st rfl ?_); (first | refine aS1 S ?_ | refine aSt S ?_ | refine aSp S ?_); clear S; intro w9 S))
    have S := S.allLnk c I9 J9 h15
    refine bodyPost_ret (results_tmp2 rfl _ _ _) rfl ?_
    rw [E1.out, E2.out, E3.out]
    exact ⟨rfl, _, S.left [_]⟩
  have HL := Lib.hid hle
  have l1 : c.st.sent.length + 1 ≤ 2097152 := by omega
  have l2 : c.st.live.length + 1 ≤ 2097152 := by omega
  have l3 : c.st.back.length + 1 ≤ 2097152 := by omega
  have E0 := (show sendOk c k fr t s u = true by unfold sendOk; rw [hp, decide_eq_true hle, decide_eq_true e1]; rfl)
  have E1 := Lib.hid E0
  have E2 := Lib.hid (sendN_yes E0)
  have E3 := Lib.hid (sendC_yes E0)
  clear E0
  clear e1 ll hp hle
  go_enter Try.func107, Try.ntmps107
  go_wp2_with (first | ((with_reducible refine gate_box rfl ?_); refine aBx S ?_; clear S; intro g9 w9 z9 S) | ((with_reducible refine gate_alloc rfl ?_); refine aAl S ?_; clear S; intro g9 w9 z9 S) | ((with_reducible refine gate_load rfl ?_); first | refine aLd S ?_ | refine aPt S ?_ | refine aL1 S ?_) | ((with_reducible refine gate_st rfl ?_); (first | refine aS1 S ?_ | refine aSt S ?_ | refine aSp S ?_); clear S; intro w9 S))
  have S0 := (Sep.only1 (a1 := aBox g 136 _ _) S delA)
  refine wp_region_noPanic ?_
  refine wp_region_held_drew (S := Sep _ _ _) (by kernel_rfl) S0.drew (fun _ => ?_)
  replace S := S.drew
  clear S0
  refine tk 0 ?_
  (try simp only [Act.put, List.setIfInBounds_toArray, List.set_cons_zero, List.set_cons_succ])
  refine tk 1 ?_
  (try simp only [Act.put, List.setIfInBounds_toArray, List.set_cons_zero, List.set_cons_succ])
  refine tk 2 ?_
  (try simp only [Act.put, List.setIfInBounds_toArray, List.set_cons_zero, List.set_cons_succ])
  refine tk 3 ?_
  (try simp only [Act.put, List.setIfInBounds_toArray, List.set_cons_zero, List.set_cons_succ])
  refine tk 6 ?_
  (try simp only [Act.put, List.setIfInBounds_toArray, List.set_cons_zero, List.set_cons_succ])
  refine tk 7 ?_
  (try simp only [Act.put, List.setIfInBounds_toArray, List.set_cons_zero, List.set_cons_succ])
  refine tk 8 ?_
  (try simp only [Act.put, List.setIfInBounds_toArray, List.set_cons_zero, List.set_cons_succ])
  refine tk 9 ?_
  (try simp only [Act.put, List.setIfInBounds_toArray, List.set_cons_zero, List.set_cons_succ])
  refine tk 10 ?_
  (try simp only [Act.put, List.setIfInBounds_toArray, List.set_cons_zero, List.set_cons_succ])
  refine tk 11 ?_
  (try simp only [Act.put, List.setIfInBounds_toArray, List.set_cons_zero, List.set_cons_succ])
  refine tk 12 ?_
  (try simp only [Act.put, List.setIfInBounds_toArray, List.set_cons_zero, List.set_cons_succ])
  refine tk 13 ?_
  (try simp only [Act.put, List.setIfInBounds_toArray, List.set_cons_zero, List.set_cons_succ])
  refine tk 14 ?_
  (try simp only [Act.put, List.setIfInBounds_toArray, List.set_cons_zero, List.set_cons_succ])
  refine rdys [4, 16] ?_
  refine rdc 4 (fun K hK => ?_) ?_
  · go_simp
    (first | refine hK.out _ _ (S.sub subA) (fun _ => ?_) | (go_wp2_with fail; refine hK.out _ _ (S.sub subA) (fun _ => ?_)))
    clear hK K
    (try simp only [Act.put, List.setIfInBounds_toArray, List.set_cons_zero, List.set_cons_succ])
    refine tk 5 ?_
    (try simp only [Act.put, List.setIfInBounds_toArray, List.set_cons_zero, List.set_cons_succ])
    refine tk 15 ?_
    (try simp only [Act.put, List.setIfInBounds_toArray, List.set_cons_zero, List.set_cons_succ])
    refine rdy1 16 (fun K hK => ?_)
    refine rgAl S ?_; clear S; intro gP w9 z9 S
    (first | refine hK.out _ _ (S.sub subA) (fun _ => ?_) | (go_wp2_with fail; refine hK.out _ _ (S.sub subA) (fun _ => ?_)))
    clear hK K
    (try simp only [Act.put, List.setIfInBounds_toArray, List.set_cons_zero, List.set_cons_succ])
    refine rdy1 17 (fun K hK => ?_)
    (first | refine rgS1 S ?_ | refine rgSt S ?_ | refine rgSp S ?_); clear S; intro w9 S
    (first | refine hK.out _ _ (S.sub subA) (fun _ => ?_) | (go_wp2_with fail; refine hK.out _ _ (S.sub subA) (fun _ => ?_)))
    clear hK K
    (try simp only [Act.put, List.setIfInBounds_toArray, List.set_cons_zero, List.set_cons_succ])
    refine wpAnyH_done (by kernel_rfl) ?_ _
    refine NoPanic.normal ?_
    go_wp2_with (first | (go_at_call 118; (with_reducible refine (PacketOk_7 _ _ _ _ _ _ _ _ HP.out).mono ?_); rintro e w9 ⟨rfl, f9⟩; replace S := S.fr f9; clear f9) | (go_at_call 133; (with_reducible refine (BankAway_yes _ c.bank [.slice A1 c.bank.own.length m1, .slice A2 c.bank.notes.length m2, .int .i64 c.bank.locked] (tBk_mk (S.row (d := tInt) (xs := c.bank.own) (F := Y1) (e := 3) memA).row (S.row (d := tInt) (xs := c.bank.notes) (F := Y2) (e := 3) memA).row I9) HB.out _ _ _ ZK.out ZF.out ZS.out HL.out).mono ?_); rintro e w9 ⟨cs9, F9, rfl, h9, n9, b9, f9⟩; replace S := S.new (aOwn tBk _ cs9 F9) h9 n9 b9 f9; clear h9 n9 b9 f9; obtain ⟨x1, x2, X1, X2, rfl, rfl, I8, S9⟩ := S.openBk; replace S := S9; clear S9) | ((with_reducible refine gate_box rfl ?_); refine aBx S ?_; clear S; intro g9 w9 z9 S) | ((with_reducible refine gate_alloc rfl ?_); refine aAl S ?_; clear S; intro g9 w9 z9 S) | ((with_reducible refine gate_load rfl ?_); first | refine aLd S ?_ | refine aPt S ?_ | refine aL1 S ?_) | ((with_reducible refine gate_st rfl ?_); (first | refine aS1 S ?_ | refine aSt S ?_ | refine aSp S ?_); clear S; intro w9 S))
    have S0 := (Sep.only1 (a1 := aBox gP 88 _ _) S delA)
    refine wp_region_noPanic ?_
    refine wp_region_held_drew (S := Sep _ _ _) (by kernel_rfl) S0.drew (fun _ => ?_)
    replace S := S.drew
    clear S0
    refine tk 0 ?_
    (try simp only [Act.put, List.setIfInBounds_toArray, List.set_cons_zero, List.set_cons_succ])
    refine tk 1 ?_
    (try simp only [Act.put, List.setIfInBounds_toArray, List.set_cons_zero, List.set_cons_succ])
    refine tk 2 ?_
    (try simp only [Act.put, List.setIfInBounds_toArray, List.set_cons_zero, List.set_cons_succ])
    refine tk 3 ?_
    (try simp only [Act.put, List.setIfInBounds_toArray, List.set_cons_zero, List.set_cons_succ])
    refine tk 5 ?_
    (try simp only [Act.put, List.setIfInBounds_toArray, List.set_cons_zero, List.set_cons_succ])
    refine rdys [4, 6] ?_
    refine rdc 4 (fun K hK => ?_) ?_
    · (first | refine rgLd S ?_ | refine rgPt S ?_ | refine rgL1 S ?_)
      (first | refine hK.out _ _ (S.sub subA) (fun _ => ?_) | (go_wp2_with fail; refine hK.out _ _ (S.sub subA) (fun _ => ?_)))
      clear hK K
      (try simp only [Act.put, List.setIfInBounds_toArray, List.set_cons_zero, List.set_cons_succ])
      refine rdy1 6 (fun K hK => ?_)
      refine rgLitP (d := tPk) [sendPk c k fr t s u] 88 (sendPk c k fr t s u).cells S (el_pk H6.out) 1 rfl (by decide) ?_; clear S; intro g70 w9 z9 S
      (first | refine hK.out _ _ (S.sub subA) (fun _ => ?_) | (go_wp2_with fail; refine hK.out _ _ (S.sub subA) (fun _ => ?_)))
      clear hK K
      (try simp only [Act.put, List.setIfInBounds_toArray, List.set_cons_zero, List.set_cons_succ])
      refine rdy1 7 (fun K hK => ?_)
      refine rgApO (d := tPk) (xs := c.st.sent) (ys := [sendPk c k fr t s u]) (us := c.st.sent ++ [sendPk c k fr t s u]) S delA delA (.inl (by decide)) l1 ?_; clear S; intro A71 c71 F71 w9 S
      (first | refine hK.out _ _ (S.sub subA) (fun _ => ?_) | (go_wp2_with fail; refine hK.out _ _ (S.sub subA) (fun _ => ?_)))
      clear hK K
      (try simp only [Act.put, List.setIfInBounds_toArray, List.set_cons_zero, List.set_cons_succ])
      refine tk 8 ?_
      (try simp only [Act.put, List.setIfInBounds_toArray, List.set_cons_zero, List.set_cons_succ])
      refine tk 9 ?_
      (try simp only [Act.put, List.setIfInBounds_toArray, List.set_cons_zero, List.set_cons_succ])
      refine rdy1 10 (fun K hK => ?_)
      (first | refine rgS1 S ?_ | refine rgSt S ?_ | refine rgSp S ?_); clear S; intro w9 S
      (first | refine hK.out _ _ (S.sub subA) (fun _ => ?_) | (go_wp2_with fail; refine hK.out _ _ (S.sub subA) (fun _ => ?_)))
      clear hK K
      (try simp only [Act.put, List.setIfInBounds_toArray, List.set_cons_zero, List.set_cons_succ])
      refine wpAnyH_done (by kernel_rfl) ?_ _
      refine NoPanic.normal ?_
      go_wp2_with (first | ((with_reducible refine gate_dst (N := 79) rfl ?_); refine aLitP (d := tBool) [true] 4 [.bool true] S (el_bool true) 1 rfl (by decide) ?_; clear S; intro g79 w9 z9 S) | ((with_reducible refine gate_dst (N := 80) rfl ?_); refine aApO (d := tBool) (xs := c.st.live) (ys := [true]) (us := c.st.live ++ [true]) S delA delA (.inl (by decide)) l2 ?_; clear S; intro A80 c80 F80 w9 S) | ((with_reducible refine gate_dst (N := 88) rfl ?_); refine aLitP (d := tBool) [false] 4 [.bool false] S (el_bool false) 1 rfl (by decide) ?_; clear S; intro g88 w9 z9 S) | ((with_reducible refine gate_dst (N := 89) rfl ?_); refine aApO (d := tBool) (xs := c.st.back) (ys := [false]) (us := c.st.back ++ [false]) S delA delA (.inl (by decide)) l3 ?_; clear S; intro A89 c89 F89 w9 S) | ((with_reducible refine gate_box rfl ?_); refine aBx S ?_; clear S; intro g9 w9 z9 S) | ((with_reducible refine gate_alloc rfl ?_); refine aAl S ?_; clear S; intro g9 w9 z9 S) | ((with_reducible refine gate_load rfl ?_); first | refine aLd S ?_ | refine aPt S ?_ | refine aL1 S ?_) | ((with_reducible refine gate_st rfl ?_); (first | refine aS1 S ?_ | refine aSt S ?_ | refine aSp S ?_); clear S; intro w9 S))
      simp only [List.length_append, List.length_singleton] at S
      have S := S.allLnk (sentCh c k fr t s u) I8 J9 h15
      refine bodyPost_ret (results_tmp2 rfl _ _ _) rfl ?_
      rw [E1.out, E2.out, E3.out]
      exact ⟨rfl, _, S.left [_]⟩
    refine rdc 6 (fun K hK => ?_) AllReadyH.nil
    refine rgLitP (d := tPk) [sendPk c k fr t s u] 88 (sendPk c k fr t s u).cells S (el_pk H6.out) 1 rfl (by decide) ?_; clear S; intro g70 w9 z9 S
    (first | refine hK.out _ _ (S.sub subA) (fun _ => ?_) | (go_wp2_with fail; refine hK.out _ _ (S.sub subA) (fun _ => ?_)))
    clear hK K
    (try simp only [Act.put, List.setIfInBounds_toArray, List.set_cons_zero, List.set_cons_succ])
    refine rdy1 4 (fun K hK => ?_)
    (first | refine rgLd S ?_ | refine rgPt S ?_ | refine rgL1 S ?_)
    (first | refine hK.out _ _ (S.sub subA) (fun _ => ?_) | (go_wp2_with fail; refine hK.out _ _ (S.sub subA) (fun _ => ?_)))
    clear hK K
    (try simp only [Act.put, List.setIfInBounds_toArray, List.set_cons_zero, List.set_cons_succ])
    refine rdy1 7 (fun K hK => ?_)
    refine rgApO (d := tPk) (xs := c.st.sent) (ys := [sendPk c k fr t s u]) (us := c.st.sent ++ [sendPk c k fr t s u]) S delA delA (.inl (by decide)) l1 ?_; clear S; intro A71 c71 F71 w9 S
    (first | refine hK.out _ _ (S.sub subA) (fun _ => ?_) | (go_wp2_with fail; refine hK.out _ _ (S.sub subA) (fun _ => ?_)))
    clear hK K
    (try simp only [Act.put, List.setIfInBounds_toArray, List.set_cons_zero, List.set_cons_succ])
    refine tk 8 ?_
    (try simp only [Act.put, List.setIfInBounds_toArray, List.set_cons_zero, List.set_cons_succ])
    refine tk 9 ?_
    (try simp only [Act.put, List.setIfInBounds_toArray, List.set_cons_zero, List.set_cons_succ])
    refine rdy1 10 (fun K hK => ?_)
    (first | refine rgS1 S ?_ | refine rgSt S ?_ | refine rgSp S ?_); clear S; intro w9 S
    (first | refine hK.out _ _ (S.sub subA) (fun _ => ?_) | (go_wp2_with fail; refine hK.out _ _ (S.sub subA) (fun _ => ?_)))
    clear hK K
    (try simp only [Act.put, List.setIfInBounds_toArray, List.set_cons_zero, List.set_cons_succ])
    refine wpAnyH_done (by kernel_rfl) ?_ _
    refine NoPanic.normal ?_
    go_wp2_with (first | ((with_reducible refine gate_dst (N := 79) rfl ?_); refine aLitP (d := tBool) [true] 4 [.bool true] S (el_bool true) 1 rfl (by decide) ?_; clear S; intro g79 w9 z9 S) | ((with_reducible refine gate_dst (N := 80) rfl ?_); refine aApO (d := tBool) (xs := c.st.live) (ys := [true]) (us := c.st.live ++ [true]) S delA delA (.inl (by decide)) l2 ?_; clear S; intro A80 c80 F80 w9 S) | ((with_reducible refine gate_dst (N := 88) rfl ?_); refine aLitP (d := tBool) [false] 4 [.bool false] S (el_bool false) 1 rfl (by decide) ?_; clear S; intro g88 w9 z9 S) | ((with_reducible refine gate_dst (N := 89) rfl ?_); refine aApO (d := tBool) (xs := c.st.back) (ys := [false]) (us := c.st.back ++ [false]) S delA delA (.inl (by decide)) l3 ?_; clear S; intro A89 c89 F89 w9 S) | ((with_reducible refine gate_box rfl ?_); refine aBx S ?_; clear S; intro g9 w9 z9 S) | ((with_reducible refine gate_alloc rfl ?_); refine aAl S ?_; clear S; intro g9 w9 z9 S) | ((with_reducible refine gate_load rfl ?_); first | refine aLd S ?_ | refine aPt S ?_ | refine aL1 S ?_) | ((with_reducible refine gate_st rfl ?_); (first | refine aS1 S ?_ | refine aSt S ?_ | refine aSp S ?_); clear S; intro w9 S))
    simp only [List.length_append, List.length_singleton] at S
    have S := S.allLnk (sentCh c k fr t s u) I8 J9 h15
    refine bodyPost_ret (results_tmp2 rfl _ _ _) rfl ?_
    rw [E1.out, E2.out, E3.out]
    exact ⟨rfl, _, S.left [_]⟩
  refine rdc 16 (fun K hK => ?_) AllReadyH.nil
  refine rgAl S ?_; clear S; intro gP w9 z9 S
  (first | refine hK.out _ _ (S.sub subA) (fun _ => ?_) | (go_wp2_with fail; refine hK.out _ _ (S.sub subA) (fun _ => ?_)))
  clear hK K
  (try simp only [Act.put, List.setIfInBounds_toArray, List.set_cons_zero, List.set_cons_succ])
  refine rdy1 4 (fun K hK => ?_)
  go_simp
  (first | refine hK.out _ _ (S.sub subA) (fun _ => ?_) | (go_wp2_with fail; refine hK.out _ _ (S.sub subA) (fun _ => ?_)))
  clear hK K
  (try simp only [Act.put, List.setIfInBounds_toArray, List.set_cons_zero, List.set_cons_succ])
  refine tk 5 ?_
  (try simp only [Act.put, List.setIfInBounds_toArray, List.set_cons_zero, List.set_cons_succ])
  refine tk 15 ?_
  (try simp only [Act.put, List.setIfInBounds_toArray, List.set_cons_zero, List.set_cons_succ])
  refine rdy1 17 (fun K hK => ?_)
  (first | refine rgS1 S ?_ | refine rgSt S ?_ | refine rgSp S ?_); clear S; intro w9 S
  (first | refine hK.out _ _ (S.sub subA) (fun _ => ?_) | (go_wp2_with fail; refine hK.out _ _ (S.sub subA) (fun _ => ?_)))
  clear hK K
  (try simp only [Act.put, List.setIfInBounds_toArray, List.set_cons_zero, List.set_cons_succ])
  refine wpAnyH_done (by kernel_rfl) ?_ _
  refine NoPanic.normal ?_
  go_wp2_with (first | (go_at_call 118; (with_reducible refine (PacketOk_7 _ _ _ _ _ _ _ _ HP.out).mono ?_); rintro e w9 ⟨rfl, f9⟩; replace S := S.fr f9; clear f9) | (go_at_call 133; (with_reducible refine (BankAway_yes _ c.bank [.slice A1 c.bank.own.length m1, .slice A2 c.bank.notes.length m2, .int .i64 c.bank.locked] (tBk_mk (S.row (d := tInt) (xs := c.bank.own) (F := Y1) (e := 3) memA).row (S.row (d := tInt) (xs := c.bank.notes) (F := Y2) (e := 3) memA).row I9) HB.out _ _ _ ZK.out ZF.out ZS.out HL.out).mono ?_); rintro e w9 ⟨cs9, F9, rfl, h9, n9, b9, f9⟩; replace S := S.new (aOwn tBk _ cs9 F9) h9 n9 b9 f9; clear h9 n9 b9 f9; obtain ⟨x1, x2, X1, X2, rfl, rfl, I8, S9⟩ := S.openBk; replace S := S9; clear S9) | ((with_reducible refine gate_box rfl ?_); refine aBx S ?_; clear S; intro g9 w9 z9 S) | ((with_reducible refine gate_alloc rfl ?_); refine aAl S ?_; clear S; intro g9 w9 z9 S) | ((with_reducible refine gate_load rfl ?_); first | refine aLd S ?_ | refine aPt S ?_ | refine aL1 S ?_) | ((with_reducible refine gate_st rfl ?_); (first | refine aS1 S ?_ | refine aSt S ?_ | refine aSp S ?_); clear S; intro w9 S))
  have S0 := (Sep.only1 (a1 := aBox gP 88 _ _) S delA)
  refine wp_region_noPanic ?_
  refine wp_region_held_drew (S := Sep _ _ _) (by kernel_rfl) S0.drew (fun _ => ?_)
  replace S := S.drew
  clear S0
  refine tk 0 ?_
  (try simp only [Act.put, List.setIfInBounds_toArray, List.set_cons_zero, List.set_cons_succ])
  refine tk 1 ?_
  (try simp only [Act.put, List.setIfInBounds_toArray, List.set_cons_zero, List.set_cons_succ])
  refine tk 2 ?_
  (try simp only [Act.put, List.setIfInBounds_toArray, List.set_cons_zero, List.set_cons_succ])
  refine tk 3 ?_
  (try simp only [Act.put, List.setIfInBounds_toArray, List.set_cons_zero, List.set_cons_succ])
  refine tk 5 ?_
  (try simp only [Act.put, List.setIfInBounds_toArray, List.set_cons_zero, List.set_cons_succ])
  refine rdys [4, 6] ?_
  refine rdc 4 (fun K hK => ?_) ?_
  · (first | refine rgLd S ?_ | refine rgPt S ?_ | refine rgL1 S ?_)
    (first | refine hK.out _ _ (S.sub subA) (fun _ => ?_) | (go_wp2_with fail; refine hK.out _ _ (S.sub subA) (fun _ => ?_)))
    clear hK K
    (try simp only [Act.put, List.setIfInBounds_toArray, List.set_cons_zero, List.set_cons_succ])
    refine rdy1 6 (fun K hK => ?_)
    refine rgLitP (d := tPk) [sendPk c k fr t s u] 88 (sendPk c k fr t s u).cells S (el_pk H6.out) 1 rfl (by decide) ?_; clear S; intro g70 w9 z9 S
    (first | refine hK.out _ _ (S.sub subA) (fun _ => ?_) | (go_wp2_with fail; refine hK.out _ _ (S.sub subA) (fun _ => ?_)))
    clear hK K
    (try simp only [Act.put, List.setIfInBounds_toArray, List.set_cons_zero, List.set_cons_succ])
    refine rdy1 7 (fun K hK => ?_)
    refine rgApO (d := tPk) (xs := c.st.sent) (ys := [sendPk c k fr t s u]) (us := c.st.sent ++ [sendPk c k fr t s u]) S delA delA (.inl (by decide)) l1 ?_; clear S; intro A71 c71 F71 w9 S
    (first | refine hK.out _ _ (S.sub subA) (fun _ => ?_) | (go_wp2_with fail; refine hK.out _ _ (S.sub subA) (fun _ => ?_)))
    clear hK K
    (try simp only [Act.put, List.setIfInBounds_toArray, List.set_cons_zero, List.set_cons_succ])
    refine tk 8 ?_
    (try simp only [Act.put, List.setIfInBounds_toArray, List.set_cons_zero, List.set_cons_succ])
    refine tk 9 ?_
    (try simp only [Act.put, List.setIfInBounds_toArray, List.set_cons_zero, List.set_cons_succ])
    refine rdy1 10 (fun K hK => ?_)
    (first | refine rgS1 S ?_ | refine rgSt S ?_ | refine rgSp S ?_); clear S; intro w9 S
    (first | refine hK.out _ _ (S.sub subA) (fun _ => ?_) | (go_wp2_with fail; refine hK.out _ _ (S.sub subA) (fun _ => ?_)))
    clear hK K
    (try simp only [Act.put, List.setIfInBounds_toArray, List.set_cons_zero, List.set_cons_succ])
    refine wpAnyH_done (by kernel_rfl) ?_ _
    refine NoPanic.normal ?_
    go_wp2_with (first | ((with_reducible refine gate_dst (N := 79) rfl ?_); refine aLitP (d := tBool) [true] 4 [.bool true] S (el_bool true) 1 rfl (by decide) ?_; clear S; intro g79 w9 z9 S) | ((with_reducible refine gate_dst (N := 80) rfl ?_); refine aApO (d := tBool) (xs := c.st.live) (ys := [true]) (us := c.st.live ++ [true]) S delA delA (.inl (by decide)) l2 ?_; clear S; intro A80 c80 F80 w9 S) | ((with_reducible refine gate_dst (N := 88) rfl ?_); refine aLitP (d := tBool) [false] 4 [.bool false] S (el_bool false) 1 rfl (by decide) ?_; clear S; intro g88 w9 z9 S) | ((with_reducible refine gate_dst (N := 89) rfl ?_); refine aApO (d := tBool) (xs := c.st.back) (ys := [false]) (us := c.st.back ++ [false]) S delA delA (.inl (by decide)) l3 ?_; clear S; intro A89 c89 F89 w9 S) | ((with_reducible refine gate_box rfl ?_); refine aBx S ?_; clear S; intro g9 w9 z9 S) | ((with_reducible refine gate_alloc rfl ?_); refine aAl S ?_; clear S; intro g9 w9 z9 S) | ((with_reducible refine gate_load rfl ?_); first | refine aLd S ?_ | refine aPt S ?_ | refine aL1 S ?_) | ((with_reducible refine gate_st rfl ?_); (first | refine aS1 S ?_ | refine aSt S ?_ | refine aSp S ?_); clear S; intro w9 S))
    simp only [List.length_append, List.length_singleton] at S
    have S := S.allLnk (sentCh c k fr t s u) I8 J9 h15
    refine bodyPost_ret (results_tmp2 rfl _ _ _) rfl ?_
    rw [E1.out, E2.out, E3.out]
    exact ⟨rfl, _, S.left [_]⟩
  refine rdc 6 (fun K hK => ?_) AllReadyH.nil
  refine rgLitP (d := tPk) [sendPk c k fr t s u] 88 (sendPk c k fr t s u).cells S (el_pk H6.out) 1 rfl (by decide) ?_; clear S; intro g70 w9 z9 S
  (first | refine hK.out _ _ (S.sub subA) (fun _ => ?_) | (go_wp2_with fail; refine hK.out _ _ (S.sub subA) (fun _ => ?_)))
  clear hK K
  (try simp only [Act.put, List.setIfInBounds_toArray, List.set_cons_zero, List.set_cons_succ])
  refine rdy1 4 (fun K hK => ?_)
  (first | refine rgLd S ?_ | refine rgPt S ?_ | refine rgL1 S ?_)
  (first | refine hK.out _ _ (S.sub subA) (fun _ => ?_) | (go_wp2_with fail; refine hK.out _ _ (S.sub subA) (fun _ => ?_)))
  clear hK K
  (try simp only [Act.put, List.setIfInBounds_toArray, List.set_cons_zero, List.set_cons_succ])
  refine rdy1 7 (fun K hK => ?_)
  refine rgApO (d := tPk) (xs := c.st.sent) (ys := [sendPk c k fr t s u]) (us := c.st.sent ++ [sendPk c k fr t s u]) S delA delA (.inl (by decide)) l1 ?_; clear S; intro A71 c71 F71 w9 S
  (first | refine hK.out _ _ (S.sub subA) (fun _ => ?_) | (go_wp2_with fail; refine hK.out _ _ (S.sub subA) (fun _ => ?_)))
  clear hK K
  (try simp only [Act.put, List.setIfInBounds_toArray, List.set_cons_zero, List.set_cons_succ])
  refine tk 8 ?_
  (try simp only [Act.put, List.setIfInBounds_toArray, List.set_cons_zero, List.set_cons_succ])
  refine tk 9 ?_
  (try simp only [Act.put, List.setIfInBounds_toArray, List.set_cons_zero, List.set_cons_succ])
  refine rdy1 10 (fun K hK => ?_)
  (first | refine rgS1 S ?_ | refine rgSt S ?_ | refine rgSp S ?_); clear S; intro w9 S
  (first | refine hK.out _ _ (S.sub subA) (fun _ => ?_) | (go_wp2_with fail; refine hK.out _ _ (S.sub subA) (fun _ => ?_)))
  clear hK K
  (try simp only [Act.put, List.setIfInBounds_toArray, List.set_cons_zero, List.set_cons_succ])
  refine wpAnyH_done (by kernel_rfl) ?_ _
  refine NoPanic.normal ?_
  go_wp2_with (first | ((with_reducible refine gate_dst (N := 79) rfl ?_); refine aLitP (d := tBool) [true] 4 [.bool true] S (el_bool true) 1 rfl (by decide) ?_; clear S; intro g79 w9 z9 S) | ((with_reducible refine gate_dst (N := 80) rfl ?_); refine aApO (d := tBool) (xs := c.st.live) (ys := [true]) (us := c.st.live ++ [true]) S delA delA (.inl (by decide)) l2 ?_; clear S; intro A80 c80 F80 w9 S) | ((with_reducible refine gate_dst (N := 88) rfl ?_); refine aLitP (d := tBool) [false] 4 [.bool false] S (el_bool false) 1 rfl (by decide) ?_; clear S; intro g88 w9 z9 S) | ((with_reducible refine gate_dst (N := 89) rfl ?_); refine aApO (d := tBool) (xs := c.st.back) (ys := [false]) (us := c.st.back ++ [false]) S delA delA (.inl (by decide)) l3 ?_; clear S; intro A89 c89 F89 w9 S) | ((with_reducible refine gate_box rfl ?_); refine aBx S ?_; clear S; intro g9 w9 z9 S) | ((with_reducible refine gate_alloc rfl ?_); refine aAl S ?_; clear S; intro g9 w9 z9 S) | ((with_reducible refine gate_load rfl ?_); first | refine aLd S ?_ | refine aPt S ?_ | refine aL1 S ?_) | ((with_reducible refine gate_st rfl ?_); (first | refine aS1 S ?_ | refine aSt S ?_ | refine aSp S ?_); clear S; intro w9 S))
  simp only [List.length_append, List.length_singleton] at S
  have S := S.allLnk (sentCh c k fr t s u) I8 J9 h15
  refine bodyPost_ret (results_tmp2 rfl _ _ _) rfl ?_
  rw [E1.out, E2.out, E3.out]
  exact ⟨rfl, _, S.left [_]⟩
end Go.Proofs.Ytapdcgjccckjeaa
namespace Go.Proofs.Ytapdcgjccckjeaa
set_option maxRecDepth 100000
set_option linter.unusedVariables false
set_option linter.unusedSimpArgs false
open Go.RowKit
theorem cntMSt_ok {s : St} (h : okSt s = true) : cntMSt s ≤ 500 := by
  have := okSt_len h
  unfold cntMSt
  omega
theorem cntMStS_ok : ∀ {ss : List St}, (∀ s ∈ ss, okSt s = true) → cntMStS ss ≤ 1000 * ss.length
  | [], _ => by simp [cntMStS]
  | s :: ss, h => by
    have h1 := cntMSt_ok (h s List.mem_cons_self)
    have h2 := cntMStS_ok (fun x hx => h x (List.mem_cons_of_mem _ hx))
    simp only [cntMStS, List.length_cons] at *
    omega
theorem SmallCh.mk' {c : Ch} (h1 : okBk c.bank = true) (h2 : okSt c.st = true) (h3 : ∀ s ∈ c.past, okSt s = true) (h4 : c.past.length ≤ 1000) (h5 : c.knows.length ≤ 1000) : SmallCh c := by
  have b := okBk_len h1
  have p := cntMStS_ok h3
  refine ⟨by omega, okSt_small h2, fun k hk => okSt_small (h3 _ (List.getElem_mem hk)), by omega, by omega⟩
theorem nilCh_small : SmallCh nilCh := ⟨⟨by simp [nilCh], by simp [nilCh]⟩, by simp [Small, nilCh], fun k h => by simp [nilCh] at h, by simp [nilCh, cntMStS], by simp [nilCh]⟩
theorem chBlockV_small {c x : Ch} (hR : chBlockV c = x) : SmallCh x := by
  unfold chBlockV at hR
  split at hR
  · rename_i hc
    obtain ⟨q1, q2, q3, q4, q5, q6⟩ := okCh_parts hc
    have k1 := knOk_len q6
    rw [← hR]
    unfold blk
    split
    · refine SmallCh.mk' q2 q3 (fun s hs => ?_) (by simp; omega) (by show c.knows.length ≤ 1000; omega)
      rcases List.mem_append.1 hs with h | h
      · exact List.all_eq_true.1 q5 _ h
      · rw [List.mem_singleton.1 h]; exact q3
    · exact SmallCh.mk' q2 q3 (List.all_eq_true.1 q5) (by omega) (by omega)
  · rw [← hR]
    exact nilCh_small
end Go.Proofs.Ytapdcgjccckjeaa
namespace Go.Proofs.Ytapdcgjccckjeaa
set_option maxRecDepth 100000
set_option linter.unusedVariables false
set_option linter.unusedSimpArgs false
open Go.RowKit
def sendV (c : Ch) (k fr t s u : Int) : Ch × Int × Bool := if okCh c = true then (sendC c k fr t s u, sendN c k fr t s u, sendOk c k fr t s u) else (nilCh, 0, false)
theorem sendC_len (c : Ch) (k fr t s u : Int) : (sendC c k fr t s u).past = c.past := by
  unfold sendC
  split <;> rfl
set_option maxHeartbeats 3200000 in
theorem ChainSend_c (w : World) (c : Ch) (c1 : List Value) (h1 : tCh.rd w c c1) (k fr t s u : Int) : Calls Try.prog 49 #[.agg c1.toArray, .int .i64 k, .int .i64 fr, .int .i64 t, .int .i64 s, .int .i64 u] w (RetOwn3 tCh (sendV c k fr t s u).1 (sendV c k fr t s u).2.1 (sendV c k fr t s u).2.2 w) := by
  have S := Sep.start w
  have FIN := Lib.hid (fun (W : World) (f : Fr w W) => tCh.fr f h1)
  have LN := Lib.hid (show c1.length = 13 from tCh.len h1)
  cases o1 : okCh c with
  | false =>
    have R := Lib.hid (show sendV c k fr t s u = (nilCh, 0, false) by unfold sendV; rw [o1]; rfl)
    have O1 := Lib.hid o1
    clear o1 h1
    go_enter Try.func49, Try.ntmps49
    go_wp2_with (first
      | (go_at_call 19; (with_reducible refine (ChainOk_r _ c _ (FIN.out _ S.frame) O1.out).mono ?_); rintro e w9 ⟨rfl, f9⟩; replace S := S.fr f9; clear f9)
      | ((with_reducible refine gate_box rfl ?_); refine aBx S ?_; clear S; intro g9 w9 z9 S) | ((with_reducible refine gate_alloc rfl ?_); refine aAl S ?_; clear S; intro g9 w9 z9 S) | ((with_reducible refine gate_load rfl ?_); first | refine aLd S ?_ | refine aPt S ?_ | refine aL1 S ?_) | ((with_reducible refine gate_st rfl ?_); (first | refine aS1 S ?_ | refine aSt S ?_ | refine aSp S ?_); clear S; intro w9 S))
    have S' := S.nilCh
    (refine Sep.ret1_2 S rfl rfl memA Try.underlying33 rfl ts33 rfl rfl rfl ?_)
    rw [R.out]
    exact S'.retOwn3 List.mem_cons_self
  | true =>
    have R := Lib.hid (show sendV c k fr t s u = (sendC c k fr t s u, sendN c k fr t s u, sendOk c k fr t s u) by unfold sendV; rw [o1]; rfl)
    have BL := Lib.hid (show (sendC c k fr t s u).past.length ≤ 1000000 by rw [sendC_len]; have := (okCh_parts o1).2.2.2.1; omega)
    have O1 := Lib.hid o1
    clear o1 h1
    go_enter Try.func49, Try.ntmps49
    go_wp2_with (first
      | (go_at_call 19; (with_reducible refine (ChainOk_r _ c _ (FIN.out _ S.frame) O1.out).mono ?_); rintro e w9 ⟨rfl, f9⟩; replace S := S.fr f9; clear f9)
      | (go_at_call 104; (with_reducible refine (linkOf_c _ c _ (FIN.out _ S.frame) O1.out).mono ?_); rintro e w9 ⟨g9, F9, rfl, T9⟩; replace S := S.call01 T9; clear T9)
      | (go_at_call 107; (with_reducible refine (send_c _ g9 c F9 (S.lnk memA) O1.out k fr t s u).mono ?_); rintro e w9 ⟨rfl, F8, T9⟩; replace S := S.callLnk1 delA T9; clear T9)
      | (go_at_call 65; (with_reducible refine (chain_c _ g9 (sendC c k fr t s u) F8 (S.lnk memA) BL.out).mono ?_); rintro e w9 ⟨cs9, G9, rfl, T9⟩; replace S := S.callLnk1 delA T9; clear T9)
      | ((with_reducible refine gate_box rfl ?_); refine aBx S ?_; clear S; intro g9 w9 z9 S) | ((with_reducible refine gate_alloc rfl ?_); refine aAl S ?_; clear S; intro g9 w9 z9 S) | ((with_reducible refine gate_load rfl ?_); first | refine aLd S ?_ | refine aPt S ?_ | refine aL1 S ?_) | ((with_reducible refine gate_st rfl ?_); (first | refine aS1 S ?_ | refine aSt S ?_ | refine aSp S ?_); clear S; intro w9 S))
    (refine Sep.ret1_2 S rfl rfl memA Try.underlying33 rfl ts33 rfl rfl rfl ?_)
    rw [R.out]
    exact S.retOwn3 memA
set_option maxHeartbeats 3200000 in
theorem sChainSend_c (w : World) (c : Ch) (c1 : List Value) (h1 : tCh.rd w c c1) (k fr t s u : Int) : Calls Try.prog 48 #[.agg c1.toArray, .int .i64 k, .int .i64 fr, .int .i64 t, .int .i64 s, .int .i64 u] w (RetOwn3 tCh (sendV c k fr t s u).1 (sendV c k fr t s u).2.1 (sendV c k fr t s u).2.2 w) := by
  have S := Sep.start w
  have FIN := Lib.hid (fun (W : World) (f : Fr w W) => tCh.fr f h1)
  have LN := Lib.hid (show c1.length = 13 from tCh.len h1)
  cases o1 : okCh c with
  | false =>
    have R := Lib.hid (show sendV c k fr t s u = (nilCh, 0, false) by unfold sendV; rw [o1]; rfl)
    have O1 := Lib.hid o1
    clear o1 h1
    go_enter Try.func48, Try.ntmps48
    go_wp2_with (first
      | (go_at_call 33; (with_reducible refine (sChainOk_r _ c _ (FIN.out _ S.frame) O1.out).mono ?_); rintro e w9 ⟨rfl, f9⟩; replace S := S.fr f9; clear f9)
      | ((with_reducible refine gate_box rfl ?_); refine aBx S ?_; clear S; intro g9 w9 z9 S) | ((with_reducible refine gate_alloc rfl ?_); refine aAl S ?_; clear S; intro g9 w9 z9 S) | ((with_reducible refine gate_load rfl ?_); first | refine aLd S ?_ | refine aPt S ?_ | refine aL1 S ?_) | ((with_reducible refine gate_st rfl ?_); (first | refine aS1 S ?_ | refine aSt S ?_ | refine aSp S ?_); clear S; intro w9 S))
    have S' := S.nilCh
    (refine Sep.ret1_2 S rfl rfl memA Try.underlying33 rfl ts33 rfl rfl rfl ?_)
    rw [R.out]
    exact S'.retOwn3 List.mem_cons_self
  | true =>
    have R := Lib.hid (show sendV c k fr t s u = (sendC c k fr t s u, sendN c k fr t s u, sendOk c k fr t s u) by unfold sendV; rw [o1]; rfl)
    have O1 := Lib.hid o1
    clear o1 h1
    go_enter Try.func48, Try.ntmps48
    go_wp2_with (first
      | (go_at_call 33; (with_reducible refine (sChainOk_r _ c _ (FIN.out _ S.frame) O1.out).mono ?_); rintro e w9 ⟨rfl, f9⟩; replace S := S.fr f9; clear f9)
      | (go_at_call 103; (with_reducible refine (l12Copy_c _ c _ (FIN.out _ S.frame) O1.out).mono ?_); rintro e w9 ⟨cs9, F9, rfl, h9, n9, b9, f9⟩; replace S := S.new (aOwn tCh _ cs9 F9) h9 n9 b9 f9; clear h9 n9 b9 f9)
      | (go_at_call 106; (with_reducible refine (l12Send_c _ c _ _ (S.ownOk memA) O1.out k fr t s u).mono ?_); rintro e w9 ⟨cs8, F8, rfl, T9⟩; replace S := S.callCh1 delA T9; clear T9)
      | ((with_reducible refine gate_box rfl ?_); refine aBx S ?_; clear S; intro g9 w9 z9 S) | ((with_reducible refine gate_alloc rfl ?_); refine aAl S ?_; clear S; intro g9 w9 z9 S) | ((with_reducible refine gate_load rfl ?_); first | refine aLd S ?_ | refine aPt S ?_ | refine aL1 S ?_) | ((with_reducible refine gate_st rfl ?_); (first | refine aS1 S ?_ | refine aSt S ?_ | refine aSp S ?_); clear S; intro w9 S))
    (refine Sep.ret1_2 S rfl rfl memA Try.underlying33 rfl ts33 rfl rfl rfl ?_)
    rw [R.out]
    exact S.retOwn3 memA
theorem ChainSend_e (w : World) (c : Ch) (c1 : List Value) (h1 : tCh.rd w c c1) (k fr t s u : Int) {x : Ch} {rn : Int} {ok : Bool} (hR : sendV c k fr t s u = (x, rn, ok)) : Calls Try.prog 49 #[.agg c1.toArray, .int .i64 k, .int .i64 fr, .int .i64 t, .int .i64 s, .int .i64 u] w (RetOwn3 tCh x rn ok w) := by
  have := ChainSend_c w c c1 h1 k fr t s u
  rw [hR] at this
  exact this
theorem sChainSend_e (w : World) (c : Ch) (c1 : List Value) (h1 : tCh.rd w c c1) (k fr t s u : Int) {x : Ch} {rn : Int} {ok : Bool} (hR : sendV c k fr t s u = (x, rn, ok)) : Calls Try.prog 48 #[.agg c1.toArray, .int .i64 k, .int .i64 fr, .int .i64 t, .int .i64 s, .int .i64 u] w (RetOwn3 tCh x rn ok w) := by
  have := sChainSend_c w c c1 h1 k fr t s u
  rw [hR] at this
  exact this
theorem sendC_small {c : Ch} {k fr t s u : Int} (hc : okCh c = true) : SmallCh (sendC c k fr t s u) := by
  obtain ⟨q1, q2, q3, q4, q5, q6⟩ := okCh_parts hc
  have k1 := knOk_len q6
  have b := okBk_len q2
  have p := cntMStS_ok (List.all_eq_true.1 q5)
  have ll := okSt_len q3
  unfold sendC
  split
  · have := awayBk_len c.bank k fr s
    refine ⟨?_, ?_, fun j hj => okSt_small (past_ok hc j hj), ?_, ?_⟩
    · show (awayBk c.bank k fr s).own.length ≤ 2097152 ∧ (awayBk c.bank k fr s).notes.length ≤ 2097152
      omega
    · simp only [Small, sentCh, List.length_append, List.length_singleton]
      omega
    · show cntMStS c.past ≤ 1000000000
      omega
    · show c.knows.length ≤ 2097152
      omega
  · exact SmallCh.mk' q2 q3 (List.all_eq_true.1 q5) (by omega) (by omega)
theorem sendV_small {c x : Ch} {k fr t s u rn : Int} {ok : Bool} (hR : sendV c k fr t s u = (x, rn, ok)) : SmallCh x := by
  unfold sendV at hR
  split at hR
  · rename_i hc
    simp only [Prod.mk.injEq] at hR
    rw [← hR.1]
    exact sendC_small hc
  · simp only [Prod.mk.injEq] at hR
    rw [← hR.1]
    exact nilCh_small
end Go.Proofs.Ytapdcgjccckjeaa
namespace Go.Proofs.Ytapdcgjccckjeaa
set_option maxRecDepth 100000
set_option linter.unusedVariables false
set_option linter.unusedSimpArgs false
open Go.RowKit
/-- Is there room? -/
def bkMay (b : Bk) (k s : Int) : Bool := if k = 1 then decide (s ≤ b.locked) else decide (b.notes.sum + s ≤ 30)
set_option maxHeartbeats 3200000 in
theorem l1Back_c (w : World) (b : Bk) (cs : List Value) (F : List Nat) (h1 : tBk.own w b cs F) (hn : F.Nodup) (hok : okBk b = true) (k fr s : Int) (hk : 1 ≤ k ∧ k ≤ 2) (hf : 1 ≤ fr ∧ fr ≤ 3) (hs : 0 ≤ s) (hs2 : s ≤ 30) :
    Calls Try.prog 151 #[.agg cs.toArray, .int .i64 k, .int .i64 fr, .int .i64 s] w (RetIn tBk (if bkMay b k s = true then backBk b k fr s else b) (bkMay b k s) F w) := by
  obtain ⟨o1, o2, F1, F2, rfl, rfl, ho1, ho2, h13⟩ := h1
  obtain ⟨q1, q2, q3, q4, q5⟩ := okBk_split hok
  have ln1 := okL_len q1
  have ln2 := okL_len q2
  have sb1 := sum_bd q1
  have sb2 := sum_bd q2
  obtain ⟨g1, cp1, e1⟩ := ho1.shape (by omega)
  obtain ⟨g2, cp2, e2⟩ := ho2.shape (by omega)
  rw [ln1] at e1
  rw [ln2] at e2
  subst e1 e2
  have hb1 : ∀ q ∈ F1, 0 ≤ q := fun q _ => Nat.zero_le q
  have hb2 : ∀ q ∈ F2, 0 ≤ q := fun q _ => Nat.zero_le q
  have hu1 := ho1.lt
  have hu2 := ho2.lt
  have DJ := (List.nodup_append.1 hn).2.2
  have f := Chg.refl (F1 ++ F2) w
  rcases (by omega : k = 1 ∨ k = 2) with rfl | rfl
  · skip
    rw [show bkMay b 1 s = decide (s ≤ b.locked) from rfl]
    have bx := okL_get q1 (fr.toNat - 1) (by omega)
    rw [at0_get (by omega)] at bx
    obtain ⟨x, hx⟩ : ∃ x, at0 b.own (fr.toNat - 1) = x := ⟨_, rfl⟩
    rw [hx] at bx
    have LI := Lib.hid (show fr.toNat - 1 < b.own.length by omega)
    have Q2 := Lib.hid q2
    by_cases hlt : b.locked < s
    · clear ln1 ln2 hx
      have ltt : decide (b.locked < s) = true := decide_eq_true hlt
      rw [decide_eq_false (show ¬ (s ≤ b.locked) by omega), if_neg (by simp)]
      go_enter Try.func151, Try.ntmps151
      go_wp2_with (first
        | ((with_reducible refine gate_dst (N := 4) rfl ?_); refine wpList_box rfl _ _ rfl #[.slice (some ⟨g1, 0, none⟩) 3 cp1, .slice (some ⟨g2, 0, none⟩) 3 cp2, .int .i64 b.locked] rfl ?_; intro g_k4 w9 hg_k4 k4 f9; have zf_k4 := f.size; have hl_k4 := k4.lt; have z9 := f9.size; replace f := f.fr f9; (try replace ho1 := ho1.fr f9); (try replace ho2 := ho2.fr f9); (try (replace k8 := k8.fr f9; (try clear r_k8); have r_k8 := k8.cells)); (try clear r_k4); have r_k4 := k4.cells)
        | ((with_reducible refine gate_dst (N := 8) rfl ?_); refine wpList_alloc rfl _ rfl _ (zero26 _) #[.slice none 0 0, .slice none 0 0, .int .i64 0] rfl ?_; intro g_k8 w9 hg_k8 k8 f9; have zf_k8 := f.size; have hl_k8 := k8.lt; have z9 := f9.size; replace f := f.fr f9; (try replace ho1 := ho1.fr f9); (try replace ho2 := ho2.fr f9); (try (replace k4 := k4.fr f9; (try clear r_k4); have r_k4 := k4.cells)); (try clear r_k8); have r_k8 := k8.cells)
        | (go_at_call 124; (with_reducible refine (l1All_c _ _ b.notes ho2.row Q2.out).mono ?_); rintro e w9 ⟨rfl, rfl⟩)
        | ((with_reducible refine gate_dst (N := 31) rfl ?_); refine wpList_bload k4 rfl _ _ rfl 0 3 rfl _ Try.underlying26 rfl size26 (by simp) #[.slice (some ⟨g1, 0, none⟩) 3 cp1, .slice (some ⟨g2, 0, none⟩) 3 cp2, .int .i64 b.locked] rfl ?_)
        | ((with_reducible refine gate_store (p := 8) rfl ?_); refine wpList_bstore k8 rfl _ _ _ rfl 0 3 rfl (.agg #[.slice (some ⟨g1, 0, none⟩) 3 cp1, .slice (some ⟨g2, 0, none⟩) 3 cp2, .int .i64 b.locked]) rfl #[.slice (some ⟨g1, 0, none⟩) 3 cp1, .slice (some ⟨g2, 0, none⟩) 3 cp2, .int .i64 b.locked] rfl rfl size26 (by simp) (by intro u hu; simp at hu; rcases hu with rfl | rfl | rfl; exact ho1.one; exact ho2.one; rfl) #[.slice (some ⟨g1, 0, none⟩) 3 cp1, .slice (some ⟨g2, 0, none⟩) 3 cp2, .int .i64 b.locked] rfl ?_; intro w9 k9 c9; have z9 := c9.size; replace f := f.trans c9 (fun q hq => .inr (by have := List.mem_singleton.1 hq; have := f.size; omega)); (try replace ho1 := ho1.chg c9 (fun q hq hm => by have := hb1 q hq; have := hu1 q hq; have := List.mem_singleton.1 hm; omega)); (try replace ho2 := ho2.chg c9 (fun q hq hm => by have := hb2 q hq; have := hu2 q hq; have := List.mem_singleton.1 hm; omega)); (try (replace k4 := k4.chg c9 (fun hm => by have := List.mem_singleton.1 hm; omega); (try clear r_k4); have r_k4 := k4.cells)); replace k8 := k9; clear k9; (try clear r_k8); have r_k8 := k8.cells))
      exact bodyPost_ret (v := .tuple #[.agg #[.slice (some ⟨g1, 0, none⟩) 3 cp1, .slice (some ⟨g2, 0, none⟩) 3 cp2, .int .i64 b.locked], .bool false]) (results_cell_row2 rfl _ _ g_k8 _ _ _ _ rfl k8.blk Try.underlying26 rfl size26 _ rfl) rfl ⟨[.slice (some ⟨g1, 0, none⟩) 3 cp1, .slice (some ⟨g2, 0, none⟩) 3 cp2, .int .i64 b.locked], rfl, ⟨_, _, F1, F2, rfl, rfl, ho1, ho2, h13⟩, f⟩
    have ltf : decide (b.locked < s) = false := decide_eq_false hlt
    rw [decide_eq_true (show s ≤ b.locked by omega), if_pos rfl]
    obtain ⟨ys, hys⟩ : ∃ ys, addAt b.own (fr.toNat - 1) s = ys := ⟨_, rfl⟩
    have hy1 : b.own.set (fr.toNat - 1) (x + s) = ys := by rw [← hys, addAt, hx]
    rw [show backBk b 1 fr s = (⟨ys, b.notes, b.locked - s⟩ : Bk) by rw [← hys]; rfl]
    have HX := Lib.hid hx
    have HY := Lib.hid hy1
    clear hx hy1 hys ln1 ln2
    have hI : I64 (b.locked - s) := by unfold I64; omega
    go_enter Try.func151, Try.ntmps151
    go_wp2_with (first
      | ((with_reducible refine gate_dst (N := 4) rfl ?_); refine wpList_box rfl _ _ rfl #[.slice (some ⟨g1, 0, none⟩) 3 cp1, .slice (some ⟨g2, 0, none⟩) 3 cp2, .int .i64 b.locked] rfl ?_; intro g_k4 w9 hg_k4 k4 f9; have zf_k4 := f.size; have hl_k4 := k4.lt; have z9 := f9.size; replace f := f.fr f9; (try replace ho1 := ho1.fr f9); (try replace ho2 := ho2.fr f9); (try (replace k8 := k8.fr f9; (try clear r_k8); have r_k8 := k8.cells)); (try clear r_k4); have r_k4 := k4.cells)
      | ((with_reducible refine gate_dst (N := 8) rfl ?_); refine wpList_alloc rfl _ rfl _ (zero26 _) #[.slice none 0 0, .slice none 0 0, .int .i64 0] rfl ?_; intro g_k8 w9 hg_k8 k8 f9; have zf_k8 := f.size; have hl_k8 := k8.lt; have z9 := f9.size; replace f := f.fr f9; (try replace ho1 := ho1.fr f9); (try replace ho2 := ho2.fr f9); (try (replace k4 := k4.fr f9; (try clear r_k4); have r_k4 := k4.cells)); (try clear r_k8); have r_k8 := k8.cells)
      | (go_at_call 124; (with_reducible refine (l1All_c _ _ b.notes ho2.row Q2.out).mono ?_); rintro e w9 ⟨rfl, rfl⟩)
      | ((with_reducible refine gate_dst (N := 32) rfl ?_); refine wpList_bload k4 rfl _ _ rfl 0 3 rfl _ Try.underlying26 rfl size26 (by simp) #[.slice (some ⟨g1, 0, none⟩) 3 cp1, .slice (some ⟨g2, 0, none⟩) 3 cp2, .int .i64 b.locked] rfl ?_)
      | (go_at_call 147; (with_reducible refine (l1List1_c _ (.slice (some ⟨g1, 0, none⟩) 3 cp1) (.slice (some ⟨g2, 0, none⟩) 3 cp2) (.int .i64 b.locked)).mono ?_); rintro e w9 ⟨rfl, f9⟩; have z9 := f9.size; replace f := f.fr f9; (try replace ho1 := ho1.fr f9); (try replace ho2 := ho2.fr f9); (try (replace k4 := k4.fr f9; (try clear r_k4); have r_k4 := k4.cells)); (try (replace k8 := k8.fr f9; (try clear r_k8); have r_k8 := k8.cells)); have hcy := orow_cell ho1 (i := fr.toNat - 1) LI.out; rw [at0_get LI.out, HX.out] at hcy)
      | ((with_reducible refine gate_store (p := 45) rfl ?_); refine wpList_ostore ho1 (i := fr.toNat - 1) LI.out rfl _ _ _ rfl rfl (x + s) rfl size3 ?_; intro w9 h9 c9; rw [HY.out] at h9; have z9 := c9.size; replace f := f.trans c9 (fun q hq => .inl (List.mem_append_left _ hq)); replace ho1 := h9; clear h9; replace ho2 := ho2.chg c9 (fun q hq hm => DJ q hm q hq rfl); replace k4 := k4.chg c9 (fun hm => by have := hu1 _ hm; omega); replace k8 := k8.chg c9 (fun hm => by have := hu1 _ hm; omega); (try clear r_k4); (try clear r_k8); have r_k4 := k4.cells; (try clear hcy))
      | ((with_reducible refine gate_store (p := 52) rfl ?_); refine wpList_bstore1 k4 rfl _ _ _ rfl 2 rfl (.int .i64 (b.locked - s)) rfl (rfl) size3 (by simp) #[.slice (some ⟨g1, 0, none⟩) 3 cp1, .slice (some ⟨g2, 0, none⟩) 3 cp2, .int .i64 (b.locked - s)] rfl ?_; intro w9 k9 c9; have z9 := c9.size; replace f := f.trans c9 (fun q hq => .inr (by have := List.mem_singleton.1 hq; have := f.size; omega)); (try replace ho1 := ho1.chg c9 (fun q hq hm => by have := hb1 q hq; have := hu1 q hq; have := List.mem_singleton.1 hm; omega)); (try replace ho2 := ho2.chg c9 (fun q hq hm => by have := hb2 q hq; have := hu2 q hq; have := List.mem_singleton.1 hm; omega)); (try (replace k8 := k8.chg c9 (fun hm => by have := List.mem_singleton.1 hm; omega); (try clear r_k8); have r_k8 := k8.cells)); replace k4 := k9; clear k9; (try clear r_k4); have r_k4 := k4.cells)
      | ((with_reducible refine gate_dst (N := 53) rfl ?_); refine wpList_bload k4 rfl _ _ rfl 0 3 rfl _ Try.underlying26 rfl size26 (by simp) #[.slice (some ⟨g1, 0, none⟩) 3 cp1, .slice (some ⟨g2, 0, none⟩) 3 cp2, .int .i64 (b.locked - s)] rfl ?_)
      | ((with_reducible refine gate_store (p := 8) rfl ?_); refine wpList_bstore k8 rfl _ _ _ rfl 0 3 rfl (.agg #[.slice (some ⟨g1, 0, none⟩) 3 cp1, .slice (some ⟨g2, 0, none⟩) 3 cp2, .int .i64 (b.locked - s)]) rfl #[.slice (some ⟨g1, 0, none⟩) 3 cp1, .slice (some ⟨g2, 0, none⟩) 3 cp2, .int .i64 (b.locked - s)] rfl rfl size26 (by simp) (by intro u hu; simp at hu; rcases hu with rfl | rfl | rfl; exact ho1.one; exact ho2.one; rfl) #[.slice (some ⟨g1, 0, none⟩) 3 cp1, .slice (some ⟨g2, 0, none⟩) 3 cp2, .int .i64 (b.locked - s)] rfl ?_; intro w9 k9 c9; have z9 := c9.size; replace f := f.trans c9 (fun q hq => .inr (by have := List.mem_singleton.1 hq; have := f.size; omega)); (try replace ho1 := ho1.chg c9 (fun q hq hm => by have := hb1 q hq; have := hu1 q hq; have := List.mem_singleton.1 hm; omega)); (try replace ho2 := ho2.chg c9 (fun q hq hm => by have := hb2 q hq; have := hu2 q hq; have := List.mem_singleton.1 hm; omega)); (try (replace k4 := k4.chg c9 (fun hm => by have := List.mem_singleton.1 hm; omega); (try clear r_k4); have r_k4 := k4.cells)); replace k8 := k9; clear k9; (try clear r_k8); have r_k8 := k8.cells))
    exact bodyPost_ret (v := .tuple #[.agg #[.slice (some ⟨g1, 0, none⟩) 3 cp1, .slice (some ⟨g2, 0, none⟩) 3 cp2, .int .i64 (b.locked - s)], .bool true]) (results_cell_row2 rfl _ _ g_k8 _ _ _ _ rfl k8.blk Try.underlying26 rfl size26 _ rfl) rfl ⟨[.slice (some ⟨g1, 0, none⟩) 3 cp1, .slice (some ⟨g2, 0, none⟩) 3 cp2, .int .i64 (b.locked - s)], rfl, ⟨_, _, F1, F2, rfl, rfl, ho1, ho2, hI⟩, f⟩
  · skip
    rw [show bkMay b 2 s = decide (b.notes.sum + s ≤ 30) from rfl]
    have bx := okL_get q2 (fr.toNat - 1) (by omega)
    rw [at0_get (by omega)] at bx
    obtain ⟨x, hx⟩ : ∃ x, at0 b.notes (fr.toNat - 1) = x := ⟨_, rfl⟩
    rw [hx] at bx
    have LI := Lib.hid (show fr.toNat - 1 < b.notes.length by omega)
    have Q2 := Lib.hid q2
    by_cases hlt : 30 < b.notes.sum + s
    · clear ln1 ln2 hx
      have ltt : decide (30 < b.notes.sum + s) = true := decide_eq_true hlt
      rw [decide_eq_false (show ¬ (b.notes.sum + s ≤ 30) by omega), if_neg (by simp)]
      go_enter Try.func151, Try.ntmps151
      go_wp2_with (first
        | ((with_reducible refine gate_dst (N := 4) rfl ?_); refine wpList_box rfl _ _ rfl #[.slice (some ⟨g1, 0, none⟩) 3 cp1, .slice (some ⟨g2, 0, none⟩) 3 cp2, .int .i64 b.locked] rfl ?_; intro g_k4 w9 hg_k4 k4 f9; have zf_k4 := f.size; have hl_k4 := k4.lt; have z9 := f9.size; replace f := f.fr f9; (try replace ho1 := ho1.fr f9); (try replace ho2 := ho2.fr f9); (try (replace k8 := k8.fr f9; (try clear r_k8); have r_k8 := k8.cells)); (try clear r_k4); have r_k4 := k4.cells)
        | ((with_reducible refine gate_dst (N := 8) rfl ?_); refine wpList_alloc rfl _ rfl _ (zero26 _) #[.slice none 0 0, .slice none 0 0, .int .i64 0] rfl ?_; intro g_k8 w9 hg_k8 k8 f9; have zf_k8 := f.size; have hl_k8 := k8.lt; have z9 := f9.size; replace f := f.fr f9; (try replace ho1 := ho1.fr f9); (try replace ho2 := ho2.fr f9); (try (replace k4 := k4.fr f9; (try clear r_k4); have r_k4 := k4.cells)); (try clear r_k8); have r_k8 := k8.cells)
        | (go_at_call 124; (with_reducible refine (l1All_c _ _ b.notes ho2.row Q2.out).mono ?_); rintro e w9 ⟨rfl, rfl⟩)
        | ((with_reducible refine gate_dst (N := 31) rfl ?_); refine wpList_bload k4 rfl _ _ rfl 0 3 rfl _ Try.underlying26 rfl size26 (by simp) #[.slice (some ⟨g1, 0, none⟩) 3 cp1, .slice (some ⟨g2, 0, none⟩) 3 cp2, .int .i64 b.locked] rfl ?_)
        | ((with_reducible refine gate_store (p := 8) rfl ?_); refine wpList_bstore k8 rfl _ _ _ rfl 0 3 rfl (.agg #[.slice (some ⟨g1, 0, none⟩) 3 cp1, .slice (some ⟨g2, 0, none⟩) 3 cp2, .int .i64 b.locked]) rfl #[.slice (some ⟨g1, 0, none⟩) 3 cp1, .slice (some ⟨g2, 0, none⟩) 3 cp2, .int .i64 b.locked] rfl rfl size26 (by simp) (by intro u hu; simp at hu; rcases hu with rfl | rfl | rfl; exact ho1.one; exact ho2.one; rfl) #[.slice (some ⟨g1, 0, none⟩) 3 cp1, .slice (some ⟨g2, 0, none⟩) 3 cp2, .int .i64 b.locked] rfl ?_; intro w9 k9 c9; have z9 := c9.size; replace f := f.trans c9 (fun q hq => .inr (by have := List.mem_singleton.1 hq; have := f.size; omega)); (try replace ho1 := ho1.chg c9 (fun q hq hm => by have := hb1 q hq; have := hu1 q hq; have := List.mem_singleton.1 hm; omega)); (try replace ho2 := ho2.chg c9 (fun q hq hm => by have := hb2 q hq; have := hu2 q hq; have := List.mem_singleton.1 hm; omega)); (try (replace k4 := k4.chg c9 (fun hm => by have := List.mem_singleton.1 hm; omega); (try clear r_k4); have r_k4 := k4.cells)); replace k8 := k9; clear k9; (try clear r_k8); have r_k8 := k8.cells))
      exact bodyPost_ret (v := .tuple #[.agg #[.slice (some ⟨g1, 0, none⟩) 3 cp1, .slice (some ⟨g2, 0, none⟩) 3 cp2, .int .i64 b.locked], .bool false]) (results_cell_row2 rfl _ _ g_k8 _ _ _ _ rfl k8.blk Try.underlying26 rfl size26 _ rfl) rfl ⟨[.slice (some ⟨g1, 0, none⟩) 3 cp1, .slice (some ⟨g2, 0, none⟩) 3 cp2, .int .i64 b.locked], rfl, ⟨_, _, F1, F2, rfl, rfl, ho1, ho2, h13⟩, f⟩
    have ltf : decide (30 < b.notes.sum + s) = false := decide_eq_false hlt
    rw [decide_eq_true (show b.notes.sum + s ≤ 30 by omega), if_pos rfl]
    obtain ⟨ys, hys⟩ : ∃ ys, addAt b.notes (fr.toNat - 1) s = ys := ⟨_, rfl⟩
    have hy1 : b.notes.set (fr.toNat - 1) (x + s) = ys := by rw [← hys, addAt, hx]
    rw [show backBk b 2 fr s = (⟨b.own, ys, b.locked⟩ : Bk) by rw [← hys]; rfl]
    have HX := Lib.hid hx
    have HY := Lib.hid hy1
    clear hx hy1 hys ln1 ln2
    have hI : I64 (b.locked) := by unfold I64; exact h13
    go_enter Try.func151, Try.ntmps151
    go_wp2_with (first
      | ((with_reducible refine gate_dst (N := 4) rfl ?_); refine wpList_box rfl _ _ rfl #[.slice (some ⟨g1, 0, none⟩) 3 cp1, .slice (some ⟨g2, 0, none⟩) 3 cp2, .int .i64 b.locked] rfl ?_; intro g_k4 w9 hg_k4 k4 f9; have zf_k4 := f.size; have hl_k4 := k4.lt; have z9 := f9.size; replace f := f.fr f9; (try replace ho1 := ho1.fr f9); (try replace ho2 := ho2.fr f9); (try (replace k8 := k8.fr f9; (try clear r_k8); have r_k8 := k8.cells)); (try clear r_k4); have r_k4 := k4.cells)
      | ((with_reducible refine gate_dst (N := 8) rfl ?_); refine wpList_alloc rfl _ rfl _ (zero26 _) #[.slice none 0 0, .slice none 0 0, .int .i64 0] rfl ?_; intro g_k8 w9 hg_k8 k8 f9; have zf_k8 := f.size; have hl_k8 := k8.lt; have z9 := f9.size; replace f := f.fr f9; (try replace ho1 := ho1.fr f9); (try replace ho2 := ho2.fr f9); (try (replace k4 := k4.fr f9; (try clear r_k4); have r_k4 := k4.cells)); (try clear r_k8); have r_k8 := k8.cells)
      | (go_at_call 124; (with_reducible refine (l1All_c _ _ b.notes ho2.row Q2.out).mono ?_); rintro e w9 ⟨rfl, rfl⟩)
      | ((with_reducible refine gate_dst (N := 32) rfl ?_); refine wpList_bload k4 rfl _ _ rfl 0 3 rfl _ Try.underlying26 rfl size26 (by simp) #[.slice (some ⟨g1, 0, none⟩) 3 cp1, .slice (some ⟨g2, 0, none⟩) 3 cp2, .int .i64 b.locked] rfl ?_)
      | (go_at_call 147; (with_reducible refine (l1List2_c _ (.slice (some ⟨g1, 0, none⟩) 3 cp1) (.slice (some ⟨g2, 0, none⟩) 3 cp2) (.int .i64 b.locked) 2 (by decide)).mono ?_); rintro e w9 ⟨rfl, f9⟩; have z9 := f9.size; replace f := f.fr f9; (try replace ho1 := ho1.fr f9); (try replace ho2 := ho2.fr f9); (try (replace k4 := k4.fr f9; (try clear r_k4); have r_k4 := k4.cells)); (try (replace k8 := k8.fr f9; (try clear r_k8); have r_k8 := k8.cells)); have hcy := orow_cell ho2 (i := fr.toNat - 1) LI.out; rw [at0_get LI.out, HX.out] at hcy)
      | ((with_reducible refine gate_store (p := 45) rfl ?_); refine wpList_ostore ho2 (i := fr.toNat - 1) LI.out rfl _ _ _ rfl rfl (x + s) rfl size3 ?_; intro w9 h9 c9; rw [HY.out] at h9; have z9 := c9.size; replace f := f.trans c9 (fun q hq => .inl (List.mem_append_right _ hq)); replace ho2 := h9; clear h9; replace ho1 := ho1.chg c9 (fun q hq hm => DJ q hq q hm rfl); replace k4 := k4.chg c9 (fun hm => by have := hu2 _ hm; omega); replace k8 := k8.chg c9 (fun hm => by have := hu2 _ hm; omega); (try clear r_k4); (try clear r_k8); have r_k4 := k4.cells; (try clear hcy))
      | ((with_reducible refine gate_dst (N := 53) rfl ?_); refine wpList_bload k4 rfl _ _ rfl 0 3 rfl _ Try.underlying26 rfl size26 (by simp) #[.slice (some ⟨g1, 0, none⟩) 3 cp1, .slice (some ⟨g2, 0, none⟩) 3 cp2, .int .i64 b.locked] rfl ?_)
      | ((with_reducible refine gate_store (p := 8) rfl ?_); refine wpList_bstore k8 rfl _ _ _ rfl 0 3 rfl (.agg #[.slice (some ⟨g1, 0, none⟩) 3 cp1, .slice (some ⟨g2, 0, none⟩) 3 cp2, .int .i64 b.locked]) rfl #[.slice (some ⟨g1, 0, none⟩) 3 cp1, .slice (some ⟨g2, 0, none⟩) 3 cp2, .int .i64 b.locked] rfl rfl size26 (by simp) (by intro u hu; simp at hu; rcases hu with rfl | rfl | rfl; exact ho1.one; exact ho2.one; rfl) #[.slice (some ⟨g1, 0, none⟩) 3 cp1, .slice (some ⟨g2, 0, none⟩) 3 cp2, .int .i64 b.locked] rfl ?_; intro w9 k9 c9; have z9 := c9.size; replace f := f.trans c9 (fun q hq => .inr (by have := List.mem_singleton.1 hq; have := f.size; omega)); (try replace ho1 := ho1.chg c9 (fun q hq hm => by have := hb1 q hq; have := hu1 q hq; have := List.mem_singleton.1 hm; omega)); (try replace ho2 := ho2.chg c9 (fun q hq hm => by have := hb2 q hq; have := hu2 q hq; have := List.mem_singleton.1 hm; omega)); (try (replace k4 := k4.chg c9 (fun hm => by have := List.mem_singleton.1 hm; omega); (try clear r_k4); have r_k4 := k4.cells)); replace k8 := k9; clear k9; (try clear r_k8); have r_k8 := k8.cells))
    exact bodyPost_ret (v := .tuple #[.agg #[.slice (some ⟨g1, 0, none⟩) 3 cp1, .slice (some ⟨g2, 0, none⟩) 3 cp2, .int .i64 b.locked], .bool true]) (results_cell_row2 rfl _ _ g_k8 _ _ _ _ rfl k8.blk Try.underlying26 rfl size26 _ rfl) rfl ⟨[.slice (some ⟨g1, 0, none⟩) 3 cp1, .slice (some ⟨g2, 0, none⟩) 3 cp2, .int .i64 b.locked], rfl, ⟨_, _, F1, F2, rfl, rfl, ho1, ho2, hI⟩, f⟩
end Go.Proofs.Ytapdcgjccckjeaa
