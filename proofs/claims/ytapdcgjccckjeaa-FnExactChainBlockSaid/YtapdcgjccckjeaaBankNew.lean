/- The bank at the beginning: what the program's BankNew and the reference's come to. -/
import Derived.Test.YtapdcgjccckjeaaBank
import Derived.RegionTactic
namespace Go.Proofs.Ytapdcgjccckjeaa
set_option maxRecDepth 100000
set_option linter.unusedVariables false
set_option linter.unusedSimpArgs false
open Go.RowKit

def newBk : Bk := ⟨[10, 10, 10], [0, 0, 0], 0⟩
set_option maxHeartbeats 800000 in
theorem sBankNew_c (w : World) : Calls Try.prog 62 #[] w (RetOwn tBk newBk w) := by
  have f := Fr.refl w
  go_enter Try.func62, Try.ntmps62
  go_wp2_with (first
    | ((with_reducible refine gate_dst (N := 0) rfl ?_); refine wpList_alloc rfl _ rfl _ (zero26 _) #[.slice none 0 0, .slice none 0 0, .int .i64 0] rfl ?_; intro g_k0 w9 hg_k0 k0 f9; have zf_k0 := f.size; have hl_k0 := k0.lt; have z9 := f9.size; replace f := f.trans f9; (try replace ho1 := ho1.fr f9); (try replace ho2 := ho2.fr f9); (try clear r_k0); have r_k0 := k0.cells)
    | ((with_reducible refine gate_dst (N := 1) rfl ?_); refine wpList_newrow tInt 3 [10, 10, 10] 3 rfl rfl (by first | (go_simp; done) | (go_simp; rfl)) (orow_ints_lit _ _ [10, 10, 10] (by simp)) (by simp) (by simp) ((Fr.refl _).alloc _) ?_; intro A1 c1 w9 F1 ho1 hn1 hb1 f9; have hu1 := ho1.lt; have z9 := f9.size; replace f := f.trans f9; (try replace ho1 := ho1.fr f9); (try replace ho2 := ho2.fr f9); (try (replace k0 := k0.fr f9; (try clear r_k0); have r_k0 := k0.cells)))
    | ((with_reducible refine gate_dst (N := 2) rfl ?_); refine wpList_newrow tInt 3 [0, 0, 0] 3 rfl rfl (by first | (go_simp; done) | (go_simp; rfl)) (orow_ints_lit _ _ [0, 0, 0] (by simp)) (by simp) (by simp) ((Fr.refl _).alloc _) ?_; intro A2 c2 w9 F2 ho2 hn2 hb2 f9; have hu2 := ho2.lt; have z9 := f9.size; replace f := f.trans f9; (try replace ho1 := ho1.fr f9); (try replace ho2 := ho2.fr f9); (try (replace k0 := k0.fr f9; (try clear r_k0); have r_k0 := k0.cells)))
    | ((with_reducible refine gate_store (p := 0) rfl ?_); refine wpList_bstore k0 rfl _ _ _ rfl 0 3 rfl (.agg #[.slice A1 3 c1, .slice A2 3 c2, .int .i64 0]) rfl #[.slice A1 3 c1, .slice A2 3 c2, .int .i64 0] rfl rfl size26 (by simp) (by intro u hu; simp at hu; rcases hu with rfl | rfl | rfl; rfl; rfl; rfl) #[.slice A1 3 c1, .slice A2 3 c2, .int .i64 0] rfl ?_; intro w9 k9 c9; have z9 := c9.size; replace f := f.own c9 (fun q hq => by have := List.mem_singleton.1 hq; have := f.size; omega); (try replace ho1 := ho1.chg c9 (fun q hq hm => by have := hb1 q hq; have := hu1 q hq; have := List.mem_singleton.1 hm; omega)); (try replace ho2 := ho2.chg c9 (fun q hq hm => by have := hb2 q hq; have := hu2 q hq; have := List.mem_singleton.1 hm; omega)); replace k0 := k9; clear k9; (try clear r_k0); have r_k0 := k0.cells))
  exact bodyPost_ret (v := .agg #[.slice A1 3 c1, .slice A2 3 c2, .int .i64 0]) (results_cell_row rfl _ _ g_k0 _ _ _ _ rfl k0.blk Try.underlying26 rfl size26) rfl
    ⟨[.slice A1 3 c1, .slice A2 3 c2, .int .i64 0], F1 ++ F2, rfl, ⟨_, _, F1, F2, rfl, rfl, ho1, ho2, by decide, by decide⟩, nodup_lt hn1 hn2 hu1 (by omega) hb2, lo_append (lo_mono hb1 (by omega)) (lo_mono hb2 (Nat.le_refl _)) (by omega), f⟩

theorem rep_step (k : Nat) (h : k < 3) : (List.replicate k (10 : Int) ++ List.replicate (3 - k) (0 : Int)).set k 10 = List.replicate (k + 1) 10 ++ List.replicate (3 - (k + 1)) 0 := by
  rcases (by omega : k = 0 ∨ k = 1 ∨ k = 2) with rfl | rfl | rfl <;> rfl
set_option maxHeartbeats 1600000 in
theorem BankNew_c (w : World) : Calls Try.prog 21 #[] w (RetOwn tBk newBk w) := by
  have f := Fr.refl w
  have hmk : ∀ W : World, (Instr.makeSlice 24 (.int .i64 3) (.int .i64 3)).run Try.prog W = .ok (.slice (some ⟨W.heap.size, 0, none⟩) 3 3) (W.alloc (.cells #[.int .i64 0, .int .i64 0, .int .i64 0] 3)) := fun _ => by kernel_rfl
  go_enter Try.func21, Try.ntmps21
  go_upto_region 1 with (((with_reducible refine gate_dst (N := 0) rfl ?_); refine wpList_alloc rfl _ rfl _ (zero26 _) #[.slice none 0 0, .slice none 0 0, .int .i64 0] rfl ?_; intro g_k0 w9 hg_k0 k0 f9; have zf_k0 := f.size; have hl_k0 := k0.lt; have z9 := f9.size; replace f := f.trans f9; (try replace ho1 := ho1.fr f9); (try replace ho2 := ho2.fr f9); (try (replace k1 := k1.fr f9; (try clear r_k1); have r_k1 := k1.cells)); (try clear r_k0); have r_k0 := k0.cells))
  simp only [Act.put, List.setIfInBounds_toArray, List.set_cons_zero, List.set_cons_succ]
  go_cut [1] (fun v1 wr => ∃ g1 g3 g4, v1 = .pointer (some ⟨g1, 0, none⟩) ∧ Box wr g1 26 #[.slice (some ⟨g3, 0, none⟩) 3 3, .slice (some ⟨g4, 0, none⟩) 3 3, .int .i64 0] ∧ tInt.orow 3 wr (.slice (some ⟨g3, 0, none⟩) 3 3) [0, 0, 0] [g3] ∧ tInt.orow 3 wr (.slice (some ⟨g4, 0, none⟩) 3 3) [0, 0, 0] [g4] ∧
    g_k0 < g1 ∧ g_k0 < g3 ∧ g_k0 < g4 ∧ g1 ≠ g3 ∧ g1 ≠ g4 ∧ g3 ≠ g4 ∧ Fr w9 wr)
  case first =>
    go_region
    all_goals
      go_wp2
      go_meet
      case rel =>
        refine' ⟨_, _, _, rfl, ⟨_⟩, _, _, _⟩
        rotate_left 2
        · first | exact (three_new _ _ _ _).1 | exact (three_new _ _ _ _).2.1 | exact (three_new _ _ _ _).2.2
        · exact orow_of_heap rfl (by decide) (by first | exact (three_new _ _ _ _).1 | exact (three_new _ _ _ _).2.1 | exact (three_new _ _ _ _).2.2)
        · exact orow_of_heap rfl (by decide) (by first | exact (three_new _ _ _ _).1 | exact (three_new _ _ _ _).2.1 | exact (three_new _ _ _ _).2.2)
        · exact ⟨by omega, by omega, by omega, by omega, by omega, by omega, ((((Fr.refl _).alloc _).alloc _).alloc _).drew⟩
  case rest =>
    obtain ⟨g1, g3, g4, rfl, k1, ho1, ho2, l1, l2, l3, l4, l5, l6, f9⟩ := hcut
    have z9 := f9.size; replace f := f.trans f9; (try replace ho1 := ho1.fr f9); (try replace ho2 := ho2.fr f9); (try (replace k0 := k0.fr f9; (try clear r_k0); have r_k0 := k0.cells)); (try (replace k1 := k1.fr f9; (try clear r_k1); have r_k1 := k1.cells))
    have r_k1 := k1.cells
    have lt3 := ho1.lt g3 (by simp)
    have lt4 := ho2.lt g4 (by simp)
    go_wp2
    go_loopw [2, 9] (fun _ i wr => ∃ k : Nat, k ≤ 3 ∧ i = .int .i64 k ∧ tInt.orow 3 wr (.slice (some ⟨g3, 0, none⟩) 3 3) (List.replicate k 10 ++ List.replicate (3 - k) 0) [g3] ∧ Chg [g3] wc wr) (fun _ i _ => 3 - (intOf i).toNat)
    case atStart => exact ⟨0, by omega, rfl, ho1, Chg.refl _ _⟩
    case round =>
      obtain ⟨k, hk, rfl, hr, hc⟩ := hrel
      have k1' := k1.chg hc (by simp; omega)
      clear r_k0 r_k1
      have r_k1 := k1'.cells
      by_cases hlt : k < 3
      · obtain ⟨g, y, e, h4, g1', g2', hs⟩ := orow_int_at hr (k := k) (by simp; omega)
        cases e
        have hs2 := hs 10
        rw [rep_step k hlt] at hs2
        clear hs hr h4
        have p1 : (k : Int) < 3 := by omega
        go_wp2
        go_roundw
        case rel => exact ⟨k + 1, by omega, by go_num, hs2, hc.set (.inl (by simp)) _⟩
        case measure => simp [intOf]; omega
      · obtain rfl : k = 3 := by omega
        have hr2 : tInt.orow 3 wr (.slice (some ⟨g3, 0, none⟩) 3 3) [10, 10, 10] [g3] := hr
        have ho2' := ho2.chg hc (by simp; omega)
        have k0' := k0.chg hc (by simp; omega)
        have f8 : Fr w wr := f.own hc (by simp; omega)
        have sz3 := hc.size
        have l1' := k1'.lt
        have lo : w.heap.size ≤ g3 ∧ w.heap.size ≤ g4 := by omega
        clear hr hc k0 k1 ho1 ho2 f r_k1
        go_wp2_with (first
          | ((with_reducible refine gate_dst (N := 17) rfl ?_); refine wpList_bload k1' rfl _ _ rfl 0 3 rfl _ Try.underlying26 rfl size26 (by simp) #[.slice (some ⟨g3, 0, none⟩) 3 3, .slice (some ⟨g4, 0, none⟩) 3 3, .int .i64 0] rfl ?_)
          | ((with_reducible refine gate_store (p := 0) rfl ?_); refine wpList_bstore k0' rfl _ _ _ rfl 0 3 rfl (.agg #[.slice (some ⟨g3, 0, none⟩) 3 3, .slice (some ⟨g4, 0, none⟩) 3 3, .int .i64 0]) rfl #[.slice (some ⟨g3, 0, none⟩) 3 3, .slice (some ⟨g4, 0, none⟩) 3 3, .int .i64 0] rfl rfl size26 (by simp) (by intro u hu; simp at hu; rcases hu with rfl | rfl | rfl <;> rfl) #[.slice (some ⟨g3, 0, none⟩) 3 3, .slice (some ⟨g4, 0, none⟩) 3 3, .int .i64 0] rfl ?_; intro w9 k9 c9))
        refine bodyPost_ret (v := .agg #[.slice (some ⟨g3, 0, none⟩) 3 3, .slice (some ⟨g4, 0, none⟩) 3 3, .int .i64 0]) (results_cell_row rfl _ _ g_k0 _ _ _ _ rfl k9.blk Try.underlying26 rfl size26) rfl
          ⟨[.slice (some ⟨g3, 0, none⟩) 3 3, .slice (some ⟨g4, 0, none⟩) 3 3, .int .i64 0], [g3] ++ [g4], rfl, ⟨_, _, [g3], [g4], rfl, rfl, hr2.chg c9 (by simp; omega), ho2'.chg c9 (by simp; omega), by decide, by decide⟩, by simp; omega, by simp; omega, f8.own c9 (by simp; omega)⟩
end Go.Proofs.Ytapdcgjccckjeaa
