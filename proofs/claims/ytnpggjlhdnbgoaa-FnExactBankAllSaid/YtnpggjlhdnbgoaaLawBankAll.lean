/- The program's BankAll returns what the reference's returns, for every bank. -/
import Derived.Test.YtnpggjlhdnbgoaaBankAll
namespace Go.Proofs.Ytnpggjlhdnbgoaa
set_option linter.unusedVariables false
set_option linter.unusedSimpArgs false
open Go.RowKit

theorem size29 : (Try.prog.info? 29).map (·.size) = some 3 := by kernel_rfl
set_option maxHeartbeats 1600000 in
theorem FnExactBankAll_c (w : World) (b : Bk) (c1 : List Value) (h1 : tBk.rd w b c1) : Calls Try.prog 5 #[.agg c1.toArray] w (Ret (.bool true) w) := by
  obtain ⟨v1, v2, rfl, h11, h12, h13⟩ := h1
  have f := Fr.refl w
  by_cases e1 : cntBk b ≤ 1048576
  · have s1 := Lib.hid (show szr 1048576 (cntBk b) = 1048576 - cntBk b by unfold szr; rw [if_pos (by omega)])
    have hm : b.own.length ≤ 1048576 ∧ b.notes.length ≤ 1048576 := by unfold cntBk at e1; omega
    have Hm := Lib.hid hm
    clear hm
    go_enter Try.func5, Try.ntmps5
    go_wp2_with (first
      | ((with_reducible refine gate_dst (N := 1) rfl ?_); refine wpList_box rfl _ _ rfl #[v1, v2, .int .i64 b.locked] rfl ?_; intro g_k1 w9 hg_k1 k1 f9; have zf_k1 := f.size; have hl_k1 := k1.lt; have z9 := f9.size; replace f := f.trans f9; (try replace ho1 := ho1.fr f9); (try replace ho2 := ho2.fr f9); (try (replace k6 := k6.fr f9; (try clear r_k6); have r_k6 := k6.cells)); (try clear r_k1); have r_k1 := k1.cells)
      | ((with_reducible refine gate_dst (N := 9) rfl ?_); refine wpList_bload k1 rfl _ _ rfl 0 3 rfl _ Try.underlying29 rfl size29 (by simp) #[v1, v2, .int .i64 b.locked] rfl ?_)
      | ((with_reducible refine gate_dst (N := 15) rfl ?_); refine wpList_bload k1 rfl _ _ rfl 0 3 rfl _ Try.underlying29 rfl size29 (by simp) #[v1, v2, .int .i64 b.locked] rfl ?_)
      | ((with_reducible refine gate_dst (N := 20) rfl ?_); refine wpList_bload k1 rfl _ _ rfl 0 3 rfl _ Try.underlying29 rfl size29 (by simp) #[v1, v2, .int .i64 b.locked] rfl ?_)
      | (go_at_call 23; (with_reducible refine (szBank_c _ b [v1, v2, .int .i64 b.locked] 1048576 (tBk_mk (h11.fr f) (h12.fr f) h13) (by omega) (by omega)).mono ?_); rintro e w9 ⟨rfl, f9⟩; rw [s1.out]; have z9 := f9.size; replace f := f.trans f9; (try replace ho1 := ho1.fr f9); (try replace ho2 := ho2.fr f9); (try (replace k1 := k1.fr f9; (try clear r_k1); have r_k1 := k1.cells)); (try (replace k6 := k6.fr f9; (try clear r_k6); have r_k6 := k6.cells)))
      | (go_at_call 25; (with_reducible refine (toBank_c _ b [v1, v2, .int .i64 b.locked] (tBk_mk (h11.fr f) (h12.fr f) h13) Hm.out).mono ?_); rintro e w9 ⟨_, F1, rfl, ⟨o1, o2, G1, G2, rfl, rfl, ho1, ho2, _⟩, hn1, hb0, f9⟩; have hb1 := fun g hg => hb0 g (List.mem_append_left _ hg); have hb2 := fun g hg => hb0 g (List.mem_append_right _ hg); have hu1 := ho1.lt; have hu2 := ho2.lt; have z9 := f9.size; replace f := f.trans f9; (try replace ho1 := ho1.fr f9); (try replace ho2 := ho2.fr f9); (try (replace k1 := k1.fr f9; (try clear r_k1); have r_k1 := k1.cells)); (try (replace k6 := k6.fr f9; (try clear r_k6); have r_k6 := k6.cells)))
      | (go_at_call 27; (with_reducible refine (sBankAll_c _ b _ (tBk_mk ho1.row ho2.row h13)).mono ?_); rintro e w9 ⟨rfl, f9⟩; have z9 := f9.size; replace f := f.trans f9; (try replace ho1 := ho1.fr f9); (try replace ho2 := ho2.fr f9); (try (replace k1 := k1.fr f9; (try clear r_k1); have r_k1 := k1.cells)); (try (replace k6 := k6.fr f9; (try clear r_k6); have r_k6 := k6.cells)))
      | ((with_reducible refine gate_dst (N := 6) rfl ?_); refine wpList_alloc rfl _ rfl _ (zero24 _) #[.slice none 0 0, .slice none 0 0, .int .i64 0] rfl ?_; intro g_k6 w9 hg_k6 k6 f9; have zf_k6 := f.size; have hl_k6 := k6.lt; have z9 := f9.size; replace f := f.trans f9; (try replace ho1 := ho1.fr f9); (try replace ho2 := ho2.fr f9); (try (replace k1 := k1.fr f9; (try clear r_k1); have r_k1 := k1.cells)); (try clear r_k6); have r_k6 := k6.cells)
      | ((with_reducible refine gate_store (p := 6) rfl ?_); refine wpList_bstore k6 rfl _ _ _ rfl 0 3 rfl (.agg #[o1, o2, .int .i64 b.locked]) rfl #[o1, o2, .int .i64 b.locked] rfl rfl size24 (by simp) (by intro u hu; simp at hu; rcases hu with rfl | rfl | rfl; exact ho1.one; exact ho2.one; rfl) #[o1, o2, .int .i64 b.locked] rfl ?_; intro w9 k9 c9; have z9 := c9.size; replace f := f.own c9 (fun q hq => by have := List.mem_singleton.1 hq; have := f.size; omega); (try replace ho1 := ho1.chg c9 (fun q hq hm => by have := hb1 q hq; have := hu1 q hq; have := List.mem_singleton.1 hm; omega)); (try replace ho2 := ho2.chg c9 (fun q hq hm => by have := hb2 q hq; have := hu2 q hq; have := List.mem_singleton.1 hm; omega)); (try (replace k1 := k1.chg c9 (fun hm => by have := List.mem_singleton.1 hm; omega); (try clear r_k1); have r_k1 := k1.cells)); replace k6 := k9; clear k9; (try clear r_k6); have r_k6 := k6.cells)
      | ((with_reducible refine gate_dst (N := 23) rfl ?_); refine wpList_bload k6 rfl _ _ rfl 0 3 rfl _ Try.underlying24 rfl size24 (by simp) #[o1, o2, .int .i64 b.locked] rfl ?_)
      | (go_at_call 28; (with_reducible refine (BankAll_c _ b _ (tBk_mk ho1.row ho2.row h13)).mono ?_); rintro e w9 ⟨rfl, f9⟩; have z9 := f9.size; replace f := f.trans f9; (try replace ho1 := ho1.fr f9); (try replace ho2 := ho2.fr f9); (try (replace k1 := k1.fr f9; (try clear r_k1); have r_k1 := k1.cells)); (try (replace k6 := k6.fr f9; (try clear r_k6); have r_k6 := k6.cells))))
    go_region_held3 (fun w' => (∀ j, w'.cell? ⟨g_k1, j, none⟩ = #[v1, v2, .int .i64 b.locked][j]?) ∧ (∀ j, w'.cell? ⟨g_k6, j, none⟩ = #[o1, o2, .int .i64 b.locked][j]?) ∧ Fr w9 w') (first | exact ⟨r_k1, r_k6, (Fr.refl _).drew⟩ | (go_split_ands; have q8 : Fr w9 _ := Fr.trans (by assumption) f8; exact ⟨(k1.fr q8).cells, (k6.fr q8).cells, q8⟩)) (first | (go_at_call 25; go_split_ands; (with_reducible refine (toBank_c _ b [v1, v2, .int .i64 b.locked] (tBk_mk (h11.fr (f.trans (by assumption))) (h12.fr (f.trans (by assumption))) h13) Hm.out).mono ?_); rintro e w8 ⟨_, F8, rfl, ⟨p1, p2, H1, H2, rfl, rfl, hp1, hp2, _⟩, hn8, hb8, f8⟩) | (go_at_call 20; go_split_ands; (with_reducible refine (eqBank_c _ b _ _ (tBk_mk (ho1.row.fr (by assumption)) (ho2.row.fr (by assumption)) h13) (tBk_mk hp1.row hp2.row h13)).mono ?_); rintro e w8 ⟨rfl, f8⟩))
    go_wp2
    go_ret
    go_split_ands
    exact ⟨rfl, f.trans (by assumption)⟩
  · have s1 := Lib.hid (show szr 1048576 (cntBk b) = -1 by unfold szr; rw [if_neg (by omega)])
    go_enter Try.func5, Try.ntmps5
    go_wp2_with (first
      | ((with_reducible refine gate_dst (N := 1) rfl ?_); refine wpList_box rfl _ _ rfl #[v1, v2, .int .i64 b.locked] rfl ?_; intro g_k1 w9 hg_k1 k1 f9; have zf_k1 := f.size; have hl_k1 := k1.lt; have z9 := f9.size; replace f := f.trans f9; (try replace ho1 := ho1.fr f9); (try replace ho2 := ho2.fr f9); (try (replace k6 := k6.fr f9; (try clear r_k6); have r_k6 := k6.cells)); (try clear r_k1); have r_k1 := k1.cells)
      | ((with_reducible refine gate_dst (N := 9) rfl ?_); refine wpList_bload k1 rfl _ _ rfl 0 3 rfl _ Try.underlying29 rfl size29 (by simp) #[v1, v2, .int .i64 b.locked] rfl ?_)
      | (go_at_call 23; (with_reducible refine (szBank_c _ b [v1, v2, .int .i64 b.locked] 1048576 (tBk_mk (h11.fr f) (h12.fr f) h13) (by omega) (by omega)).mono ?_); rintro e w9 ⟨rfl, f9⟩; rw [s1.out]; have z9 := f9.size; replace f := f.trans f9; (try replace ho1 := ho1.fr f9); (try replace ho2 := ho2.fr f9); (try (replace k1 := k1.fr f9; (try clear r_k1); have r_k1 := k1.cells)); (try (replace k6 := k6.fr f9; (try clear r_k6); have r_k6 := k6.cells))))
    go_ret
    exact ⟨rfl, f⟩
end Go.Proofs.Ytnpggjlhdnbgoaa
