/- The program's ledgers: out of a bank, and back. -/
import Derived.Test.YtnpggjlhdnbgoaaLedger
namespace Go.Proofs.Ytnpggjlhdnbgoaa
set_option linter.unusedVariables false
set_option linter.unusedSimpArgs false
open Go.RowKit
theorem lzero70 (w : World) : (zeroValue 70).run Try.prog w = .ok (.agg #[.map none, .map none, .int .i64 0]) w := by kernel_rfl
theorem lsize70 : (Try.prog.info? 70).map (·.size) = some 3 := by kernel_rfl
def RetLedger (b : Bk) (w : World) : Ending → World → Prop := fun e w' => ∃ g1 g2, e = .returned (.agg #[.map (some g1), .map (some g2), .int .i64 b.locked]) ∧ MapI w' g1 b.own ∧ MapI w' g2 b.notes ∧ g1 ≠ g2 ∧ w.heap.size ≤ g1 ∧ w.heap.size ≤ g2 ∧ Fr w w'
set_option maxHeartbeats 1600000 in
theorem ledgerOf_c (w : World) (b : Bk) (c1 : List Value) (h1 : tBk.rd w b c1) (hl : b.own.length = 3 ∧ b.notes.length = 3) : Calls Try.prog 60 #[.agg c1.toArray] w (RetLedger b w) := by
  obtain ⟨v1, v2, rfl, h11, h12, h13⟩ := h1
  have HL := Lib.hid hl
  clear hl
  have f := Fr.refl w
  go_enter Try.func60, Try.ntmps60
  go_upto_region 1 with (first
    | ((with_reducible refine gate_dst (N := 1) rfl ?_); refine wpList_box rfl _ _ rfl #[v1, v2, .int .i64 b.locked] rfl ?_; intro g_k1 w9 hg_k1 k1 f9; have zf_k1 := f.size; have hl_k1 := k1.lt; have z9 := f9.size; replace f := f.trans f9; (try (replace k2 := k2.fr f9; (try clear r_k2); have r_k2 := k2.cells)); (try clear r_k1); have r_k1 := k1.cells)
    | ((with_reducible refine gate_dst (N := 2) rfl ?_); refine wpList_alloc rfl _ rfl _ (lzero70 _) #[.map none, .map none, .int .i64 0] rfl ?_; intro g_k2 w9 hg_k2 k2 f9; have zf_k2 := f.size; have hl_k2 := k2.lt; have z9 := f9.size; replace f := f.trans f9; (try (replace k1 := k1.fr f9; (try clear r_k1); have r_k1 := k1.cells)); (try clear r_k2); have r_k2 := k2.cells))
  simp only [Act.put, List.setIfInBounds_toArray, List.set_cons_zero, List.set_cons_succ]
  have hne : g_k1 ≠ g_k2 := by omega
  go_region_held_law (fun w' => (∀ j, w'.cell? ⟨g_k1, j, none⟩ = #[v1, v2, .int .i64 b.locked][j]?) ∧ Chg [g_k2] w9 w')
    (first | (go_split_ands; refine held2 k1 hne ?_; repeat (first | exact Chg.refl _ _ | assumption | exact Fr.chg (by assumption) | apply Chg.drew | apply Chg.alloc | (apply Chg.setIn) | (refine Chg.fr ?_ (by assumption)))))
    (first
      | (go_at_call 66; go_split_ands; (with_reducible refine (amountMap_c _ v1 b.own (h11.fr (f.own (by assumption) (fun q hq => by have := List.mem_singleton.1 hq; omega))) HL.out.1).mono ?_); rintro e w8 ⟨ga, rfl, ma, la, f8⟩; have r8 := (k2.fr (show Fr w9 w8 by repeat (first | exact Fr.refl _ | assumption | apply Fr.drew | apply Fr.alloc | (refine Fr.trans ?_ (by assumption))))).cells; have s8 := (k2.fr (show Fr w9 w8 by repeat (first | exact Fr.refl _ | assumption | apply Fr.drew | apply Fr.alloc | (refine Fr.trans ?_ (by assumption))))).free; have ta := ma.lt)
      | (go_at_call 66; go_split_ands; (with_reducible refine (amountMap_c _ v2 b.notes (h12.fr (f.own (by assumption) (fun q hq => by have := List.mem_singleton.1 hq; omega))) HL.out.2).mono ?_); rintro e w8 ⟨gb, rfl, mb, lb, f8⟩; have r8 := (k2.fr (show Fr w9 w8 by repeat (first | exact Fr.refl _ | assumption | apply Fr.drew | apply Fr.alloc | (refine Fr.trans ?_ (by assumption))))).cells; have s8 := (k2.fr (show Fr w9 w8 by repeat (first | exact Fr.refl _ | assumption | apply Fr.drew | apply Fr.alloc | (refine Fr.trans ?_ (by assumption))))).free; have tb := mb.lt))
  all_goals
    have lo3 : w9.heap.size ≤ ga := Nat.le_trans (Chg.size (F := []) (by repeat (first | exact Fr.refl _ | assumption | apply Fr.drew | apply Fr.alloc | (refine Fr.trans ?_ (by assumption))))) la
    have lo7 : w9.heap.size ≤ gb := Nat.le_trans (Chg.size (F := []) (by repeat (first | exact Fr.refl _ | assumption | apply Fr.drew | apply Fr.alloc | (refine Fr.trans ?_ (by assumption))))) lb
    have dj : ga ≠ gb := by
      simp only [World.drew] at la lb ta tb
      omega
    go_wp2
    exact bodyPost_ret (v := .agg #[.map (some ga), .map (some gb), .int .i64 b.locked]) (results_cell_row rfl _ _ g_k2 _ _ _ _ rfl ((((k2.fr (show Fr w9 w8 by repeat (first | exact Fr.refl _ | assumption | apply Fr.drew | apply Fr.alloc | (refine Fr.trans ?_ (by assumption))))).set 0 (.map (some ga))).set 1 (.map (some gb))).set 2 (.int .i64 b.locked)).blk Try.underlying70 rfl lsize70) rfl
      ⟨ga, gb, rfl, (ma.fr (show Fr _ w8 by repeat (first | exact Fr.refl _ | assumption | apply Fr.drew | apply Fr.alloc | (refine Fr.trans ?_ (by assumption))))).chg (show Chg [g_k2] w8 _ by repeat (first | exact Chg.refl _ _ | assumption | exact Fr.chg (by assumption) | apply Chg.drew | apply Chg.alloc | (apply Chg.setIn) | (refine Chg.fr ?_ (by assumption)))) (fun hm => by have := List.mem_singleton.1 hm; omega), (mb.fr (show Fr _ w8 by repeat (first | exact Fr.refl _ | assumption | apply Fr.drew | apply Fr.alloc | (refine Fr.trans ?_ (by assumption))))).chg (show Chg [g_k2] w8 _ by repeat (first | exact Chg.refl _ _ | assumption | exact Fr.chg (by assumption) | apply Chg.drew | apply Chg.alloc | (apply Chg.setIn) | (refine Chg.fr ?_ (by assumption)))) (fun hm => by have := List.mem_singleton.1 hm; omega), dj, by omega, by omega,
        f.own (show Chg [g_k2] w9 _ by repeat (first | exact Chg.refl _ _ | assumption | exact Fr.chg (by assumption) | apply Chg.drew | apply Chg.alloc | (apply Chg.setIn) | (refine Chg.fr ?_ (by assumption)))) (fun q hq => by have := List.mem_singleton.1 hq; omega)⟩

set_option maxHeartbeats 1600000 in
theorem ledgerBank_c (w : World) (g1 g2 : Nat) (xs ys : List Int) (l : Int) (m1 : MapI w g1 xs) (m2 : MapI w g2 ys) (hl : xs.length = 3 ∧ ys.length = 3) (hI : I64 l) :
    Calls Try.prog 61 #[.agg #[.map (some g1), .map (some g2), .int .i64 l]] w (RetOwn tBk ⟨xs, ys, l⟩ w) := by
  have HL := Lib.hid hl
  clear hl
  have f := Fr.refl w
  go_enter Try.func61, Try.ntmps61
  go_upto_region 1 with (first
    | ((with_reducible refine gate_dst (N := 1) rfl ?_); refine wpList_box rfl _ _ rfl #[.map (some g1), .map (some g2), .int .i64 l] rfl ?_; intro g_k1 w9 hg_k1 k1 f9; have zf_k1 := f.size; have hl_k1 := k1.lt; have z9 := f9.size; replace f := f.trans f9; (try (replace k2 := k2.fr f9; (try clear r_k2); have r_k2 := k2.cells)); (try clear r_k1); have r_k1 := k1.cells)
    | ((with_reducible refine gate_dst (N := 2) rfl ?_); refine wpList_alloc rfl _ rfl _ (zero24 _) #[.slice none 0 0, .slice none 0 0, .int .i64 0] rfl ?_; intro g_k2 w9 hg_k2 k2 f9; have zf_k2 := f.size; have hl_k2 := k2.lt; have z9 := f9.size; replace f := f.trans f9; (try (replace k1 := k1.fr f9; (try clear r_k1); have r_k1 := k1.cells)); (try clear r_k2); have r_k2 := k2.cells))
  simp only [Act.put, List.setIfInBounds_toArray, List.set_cons_zero, List.set_cons_succ]
  have hne : g_k1 ≠ g_k2 := by omega
  go_region_held_law (fun w' => (∀ j, w'.cell? ⟨g_k1, j, none⟩ = #[.map (some g1), .map (some g2), .int .i64 l][j]?) ∧ Chg [g_k2] w9 w')
    (first | (go_split_ands; refine held2 k1 hne ?_; repeat (first | exact Chg.refl _ _ | assumption | exact Fr.chg (by assumption) | apply Chg.drew | apply Chg.alloc | (apply Chg.setIn) | (refine Chg.fr ?_ (by assumption)))))
    (first
      | (go_at_call 67; go_split_ands; (with_reducible refine (amountList_c _ g1 xs (m1.fr (f.own (by assumption) (fun q hq => by have := List.mem_singleton.1 hq; omega))) HL.out.1).mono ?_); rintro e w8 ⟨u3, F3, rfl, ho3, hn3, hb3, f8⟩; have r8 := (k2.fr (show Fr w9 w8 by repeat (first | exact Fr.refl _ | assumption | apply Fr.drew | apply Fr.alloc | (refine Fr.trans ?_ (by assumption))))).cells; have s8 := (k2.fr (show Fr w9 w8 by repeat (first | exact Fr.refl _ | assumption | apply Fr.drew | apply Fr.alloc | (refine Fr.trans ?_ (by assumption))))).free; have hi3 := ho3.lt; obtain ⟨A3, c3, rfl⟩ := ho3.row.val)
      | (go_at_call 67; go_split_ands; (with_reducible refine (amountList_c _ g2 ys (m2.fr (f.own (by assumption) (fun q hq => by have := List.mem_singleton.1 hq; omega))) HL.out.2).mono ?_); rintro e w8 ⟨u7, F7, rfl, ho7, hn7, hb7, f8⟩; have r8 := (k2.fr (show Fr w9 w8 by repeat (first | exact Fr.refl _ | assumption | apply Fr.drew | apply Fr.alloc | (refine Fr.trans ?_ (by assumption))))).cells; have s8 := (k2.fr (show Fr w9 w8 by repeat (first | exact Fr.refl _ | assumption | apply Fr.drew | apply Fr.alloc | (refine Fr.trans ?_ (by assumption))))).free; have hi7 := ho7.lt; obtain ⟨A7, c7, rfl⟩ := ho7.row.val))
  all_goals
    have lo3 : ∀ q ∈ F3, w9.heap.size ≤ q := fun q hq => Nat.le_trans (Chg.size (F := []) (by repeat (first | exact Fr.refl _ | assumption | apply Fr.drew | apply Fr.alloc | (refine Fr.trans ?_ (by assumption))))) (hb3 q hq)
    have lo7 : ∀ q ∈ F7, w9.heap.size ≤ q := fun q hq => Nat.le_trans (Chg.size (F := []) (by repeat (first | exact Fr.refl _ | assumption | apply Fr.drew | apply Fr.alloc | (refine Fr.trans ?_ (by assumption))))) (hb7 q hq)
    have dj : ∀ x ∈ F3, ∀ y ∈ F7, x ≠ y := by
      intro x hx y hy
      have a1 := hi3 x hx
      have a2 := hb3 x hx
      have a3 := hi7 y hy
      have a4 := hb7 y hy
      simp only [World.size_alloc, World.drew] at a1 a2 a3 a4
      omega
    go_wp2
    exact bodyPost_ret (v := .agg #[.slice A3 xs.length c3, .slice A7 ys.length c7, .int .i64 l]) (results_cell_row rfl _ _ g_k2 _ _ _ _ rfl ((((k2.fr (show Fr w9 w8 by repeat (first | exact Fr.refl _ | assumption | apply Fr.drew | apply Fr.alloc | (refine Fr.trans ?_ (by assumption))))).set 0 (.slice A3 xs.length c3)).set 1 (.slice A7 ys.length c7)).set 2 (.int .i64 l)).blk Try.underlying24 rfl size24) rfl
      ⟨[.slice A3 xs.length c3, .slice A7 ys.length c7, .int .i64 l], F3 ++ F7, rfl, ⟨_, _, F3, F7, rfl, rfl, (ho3.fr (show Fr _ w8 by repeat (first | exact Fr.refl _ | assumption | apply Fr.drew | apply Fr.alloc | (refine Fr.trans ?_ (by assumption))))).chg (show Chg [g_k2] w8 _ by repeat (first | exact Chg.refl _ _ | assumption | exact Fr.chg (by assumption) | apply Chg.drew | apply Chg.alloc | (apply Chg.setIn) | (refine Chg.fr ?_ (by assumption)))) (fun q hq hm => by have := lo3 q hq; have := List.mem_singleton.1 hm; omega), (ho7.fr (show Fr _ w8 by repeat (first | exact Fr.refl _ | assumption | apply Fr.drew | apply Fr.alloc | (refine Fr.trans ?_ (by assumption))))).chg (show Chg [g_k2] w8 _ by repeat (first | exact Chg.refl _ _ | assumption | exact Fr.chg (by assumption) | apply Chg.drew | apply Chg.alloc | (apply Chg.setIn) | (refine Chg.fr ?_ (by assumption)))) (fun q hq hm => by have := lo7 q hq; have := List.mem_singleton.1 hm; omega), hI⟩,
        List.nodup_append.2 ⟨hn3, hn7, dj⟩, lo_append (lo_mono lo3 (by omega)) (lo_mono lo7 (by omega)) (Nat.le_refl _), f.own (show Chg [g_k2] w9 _ by repeat (first | exact Chg.refl _ _ | assumption | exact Fr.chg (by assumption) | apply Chg.drew | apply Chg.alloc | (apply Chg.setIn) | (refine Chg.fr ?_ (by assumption)))) (fun q hq => by have := List.mem_singleton.1 hq; omega)⟩
end Go.Proofs.Ytnpggjlhdnbgoaa
