/- A bank's copy by the reference. -/
import Derived.Test.YtnpggjlhdnbgoaaBankOk
import Derived.Test.YtnpggjlhdnbgoaaAppend
namespace Go.Proofs.Ytnpggjlhdnbgoaa
set_option linter.unusedVariables false
set_option linter.unusedSimpArgs false
open Go.RowKit
theorem minfo3 : (Try.prog.info? 3).map (fun i => (i.zero, i.size, i.bytes)) = some (some (.int .i64 0), 1, 8) := by kernel_rfl
theorem Box.set {w : World} {g t : Nat} {cs : Array Value} (h : Box w g t cs) (j : Nat) (u : Value) : Box (w.setCell ⟨g, j, none⟩ u) g t (cs.setIfInBounds j u) := ⟨by
  have hlt := h.lt
  have hb := h.blk
  simp only [World.setCell, Array.getElem?_modify, hb, if_true, Option.map_some, Option.isSome_none, Bool.false_eq_true, if_false]⟩
set_option maxHeartbeats 1600000 in
theorem l1Copy_c (w : World) (b : Bk) (c1 : List Value) (h1 : tBk.rd w b c1) (hp : 0 < b.own.length ∧ 0 < b.notes.length) (hb : b.own.length ≤ 2097152 ∧ b.notes.length ≤ 2097152) :
    Calls Try.prog 57 #[.agg c1.toArray] w (RetOwn tBk b w) := by
  obtain ⟨v1, v2, rfl, h11, h12, h13⟩ := h1
  obtain ⟨hp1, hp2⟩ := hp
  obtain ⟨hb1, hb2⟩ := hb
  obtain ⟨i0, hi, hz0, hz1, hz2⟩ := info_parts minfo3
  have f := Fr.refl w
  go_enter Try.func57, Try.ntmps57
  go_upto_region 1 with (first
    | ((with_reducible refine gate_dst (N := 1) rfl ?_); refine wpList_box rfl _ _ rfl #[v1, v2, .int .i64 b.locked] rfl ?_; intro g_k1 w9 hg_k1 k1 f9; have zf_k1 := f.size; have hl_k1 := k1.lt; have z9 := f9.size; replace f := f.trans f9; (try (replace k2 := k2.fr f9; (try clear r_k2); have r_k2 := k2.cells)); (try clear r_k1); have r_k1 := k1.cells)
    | ((with_reducible refine gate_dst (N := 2) rfl ?_); refine wpList_alloc rfl _ rfl _ (zero24 _) #[.slice none 0 0, .slice none 0 0, .int .i64 0] rfl ?_; intro g_k2 w9 hg_k2 k2 f9; have zf_k2 := f.size; have hl_k2 := k2.lt; have z9 := f9.size; replace f := f.trans f9; (try (replace k1 := k1.fr f9; (try clear r_k1); have r_k1 := k1.cells)); (try clear r_k2); have r_k2 := k2.cells))
  simp only [Act.put, List.setIfInBounds_toArray, List.set_cons_zero, List.set_cons_succ]
  have fr_k2 := k2.free
  have hne : g_k1 ≠ g_k2 := by omega
  go_region_held_law (fun w' => (∀ j, w'.cell? ⟨g_k1, j, none⟩ = #[v1, v2, .int .i64 b.locked][j]?) ∧ Chg [g_k2] w9 w')
    (first | (go_split_ands; refine held2 k1 hne ?_; repeat (first | exact Chg.refl _ _ | assumption | exact Fr.chg (by assumption) | apply Chg.drew | apply Chg.alloc | (apply Chg.setIn) | (refine Chg.fr ?_ (by assumption)))))
    (first
      | (refine step_app rfl (.tmp 3) (.tmp 5) 22 rfl 3 i0 Try.underlying22 hi hz0 hz1 hz2 _ rfl v1 b.own rfl (by go_split_ands; exact h11.fr (f.own (by assumption) (fun q hq => by have := List.mem_singleton.1 hq; omega))) hp1 hb1 ?_; intro A3 c3 w8 F3 ho3 hn3 hb3 f8; have r8 := (k2.fr (show Fr w9 w8 by repeat (first | exact Fr.refl _ | assumption | apply Fr.drew | apply Fr.alloc | (refine Fr.trans ?_ (by assumption))))).cells; have s8 := (k2.fr (show Fr w9 w8 by repeat (first | exact Fr.refl _ | assumption | apply Fr.drew | apply Fr.alloc | (refine Fr.trans ?_ (by assumption))))).free; have hi3 := ho3.lt)
      | (refine step_app rfl (.tmp 7) (.tmp 9) 22 rfl 3 i0 Try.underlying22 hi hz0 hz1 hz2 _ rfl v2 b.notes rfl (by go_split_ands; exact h12.fr (f.own (by assumption) (fun q hq => by have := List.mem_singleton.1 hq; omega))) hp2 hb2 ?_; intro A7 c7 w8 F7 ho7 hn7 hb7 f8; have r8 := (k2.fr (show Fr w9 w8 by repeat (first | exact Fr.refl _ | assumption | apply Fr.drew | apply Fr.alloc | (refine Fr.trans ?_ (by assumption))))).cells; have s8 := (k2.fr (show Fr w9 w8 by repeat (first | exact Fr.refl _ | assumption | apply Fr.drew | apply Fr.alloc | (refine Fr.trans ?_ (by assumption))))).free; have hi7 := ho7.lt))
  all_goals
    have lo3 : ∀ q ∈ F3, w9.heap.size ≤ q := fun q hq => Nat.le_trans (Chg.size (F := []) (by repeat (first | exact Fr.refl _ | assumption | apply Fr.drew | apply Fr.alloc | (refine Fr.trans ?_ (by assumption))))) (hb3 q hq)
    have lo7 : ∀ q ∈ F7, w9.heap.size ≤ q := fun q hq => Nat.le_trans (Chg.size (F := []) (by repeat (first | exact Fr.refl _ | assumption | apply Fr.drew | apply Fr.alloc | (refine Fr.trans ?_ (by assumption))))) (hb7 q hq)
    have dj : ∀ x ∈ F3, ∀ y ∈ F7, x ≠ y := by
      intro x hx y hy
      have a1 := hi3 x hx
      have a2 := hb3 x hx
      have a3 := hi7 y hy
      have a4 := hb7 y hy
      simp only [World.size_alloc, World.drew] at a1 a2 a3 a4
      omega
    go_wp2
    exact bodyPost_ret (v := .agg #[.slice A3 b.own.length c3, .slice A7 b.notes.length c7, .int .i64 b.locked]) (results_cell_row rfl _ _ g_k2 _ _ _ _ rfl ((((k2.fr (show Fr w9 w8 by repeat (first | exact Fr.refl _ | assumption | apply Fr.drew | apply Fr.alloc | (refine Fr.trans ?_ (by assumption))))).set 0 (.slice A3 b.own.length c3)).set 1 (.slice A7 b.notes.length c7)).set 2 (.int .i64 b.locked)).blk Try.underlying24 rfl size24) rfl
      ⟨[.slice A3 b.own.length c3, .slice A7 b.notes.length c7, .int .i64 b.locked], F3 ++ F7, rfl, ⟨_, _, F3, F7, rfl, rfl, (ho3.fr (show Fr _ w8 by repeat (first | exact Fr.refl _ | assumption | apply Fr.drew | apply Fr.alloc | (refine Fr.trans ?_ (by assumption))))).chg (show Chg [g_k2] w8 _ by repeat (first | exact Chg.refl _ _ | assumption | exact Fr.chg (by assumption) | apply Chg.drew | apply Chg.alloc | (apply Chg.setIn) | (refine Chg.fr ?_ (by assumption)))) (fun q hq hm => by have := lo3 q hq; have := List.mem_singleton.1 hm; omega), (ho7.fr (show Fr _ w8 by repeat (first | exact Fr.refl _ | assumption | apply Fr.drew | apply Fr.alloc | (refine Fr.trans ?_ (by assumption))))).chg (show Chg [g_k2] w8 _ by repeat (first | exact Chg.refl _ _ | assumption | exact Fr.chg (by assumption) | apply Chg.drew | apply Chg.alloc | (apply Chg.setIn) | (refine Chg.fr ?_ (by assumption)))) (fun q hq hm => by have := lo7 q hq; have := List.mem_singleton.1 hm; omega), h13⟩,
        List.nodup_append.2 ⟨hn3, hn7, dj⟩, lo_append (lo_mono lo3 (by omega)) (lo_mono lo7 (by omega)) (Nat.le_refl _), f.own (show Chg [g_k2] w9 _ by repeat (first | exact Chg.refl _ _ | assumption | exact Fr.chg (by assumption) | apply Chg.drew | apply Chg.alloc | (apply Chg.setIn) | (refine Chg.fr ?_ (by assumption)))) (fun q hq => by have := List.mem_singleton.1 hq; omega)⟩
end Go.Proofs.Ytnpggjlhdnbgoaa
