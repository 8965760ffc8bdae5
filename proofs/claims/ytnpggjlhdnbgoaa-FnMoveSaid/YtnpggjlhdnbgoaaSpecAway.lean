/- The reference's l1Away and BankAway. -/
import Derived.Test.YtnpggjlhdnbgoaaBankAway
import Derived.Test.YtnpggjlhdnbgoaaBankCopy
import Derived.Test.YtnpggjlhdnbgoaaSpecMove
namespace Go.Proofs.Ytnpggjlhdnbgoaa
set_option linter.unusedVariables false
set_option linter.unusedSimpArgs false
open Go.RowKit
set_option maxHeartbeats 3200000 in
theorem l1Away_c (w : World) (b : Bk) (cs : List Value) (F : List Nat) (h1 : tBk.own w b cs F) (hn : F.Nodup) (hok : okBk b = true) (k fr s : Int) (hk : 1 ≤ k ∧ k ≤ 2) (hf : 1 ≤ fr ∧ fr ≤ 3) (hs : 0 ≤ s) (hs2 : s ≤ 9223372036854775807) :
    Calls Try.prog 62 #[.agg cs.toArray, .int .i64 k, .int .i64 fr, .int .i64 s] w (RetIn tBk (if s ≤ at0 (lst b k) (fr.toNat - 1) then awayBk b k fr s else b) (decide (s ≤ at0 (lst b k) (fr.toNat - 1))) F w) := by
  obtain ⟨o1, o2, F1, F2, rfl, rfl, ho1, ho2, h13⟩ := h1
  obtain ⟨q1, q2, q3, q4, q5⟩ := okBk_split hok
  have ln1 := okL_len q1
  have ln2 := okL_len q2
  have sb1 := sum_bd q1
  obtain ⟨g1, cp1, e1⟩ := ho1.shape (by omega)
  obtain ⟨g2, cp2, e2⟩ := ho2.shape (by omega)
  rw [ln1] at e1
  rw [ln2] at e2
  subst e1 e2
  have hb1 : ∀ q ∈ F1, 0 ≤ q := fun q _ => Nat.zero_le q
  have hb2 : ∀ q ∈ F2, 0 ≤ q := fun q _ => Nat.zero_le q
  have hu1 := ho1.lt
  have hu2 := ho2.lt
  have DJ := (List.nodup_append.1 hn).2.2
  have f := Chg.refl (F1 ++ F2) w
  rcases (by omega : k = 1 ∨ k = 2) with rfl | rfl
  · skip
    have bx := okL_get q1 (fr.toNat - 1) (by omega)
    rw [at0_get (by omega)] at bx
    rw [show lst b 1 = b.own from rfl]
    obtain ⟨x, hx⟩ : ∃ x, at0 b.own (fr.toNat - 1) = x := ⟨_, rfl⟩
    rw [hx] at bx ⊢
    have LI := Lib.hid (show fr.toNat - 1 < b.own.length by omega)
    by_cases hlt : x < s
    · have HX := Lib.hid hx
      clear hx ln1 ln2
      rw [if_neg (by omega), decide_eq_false (by omega)]
      go_enter Try.func62, Try.ntmps62
      go_wp2_with (first
        | ((with_reducible refine gate_dst (N := 4) rfl ?_); refine wpList_box rfl _ _ rfl #[.slice (some ⟨g1, 0, none⟩) 3 cp1, .slice (some ⟨g2, 0, none⟩) 3 cp2, .int .i64 b.locked] rfl ?_; intro g_k4 w9 hg_k4 k4 f9; have zf_k4 := f.size; have hl_k4 := k4.lt; have z9 := f9.size; replace f := f.fr f9; (try replace ho1 := ho1.fr f9); (try replace ho2 := ho2.fr f9); (try (replace k8 := k8.fr f9; (try clear r_k8); have r_k8 := k8.cells)); (try clear r_k4); have r_k4 := k4.cells)
        | ((with_reducible refine gate_dst (N := 8) rfl ?_); refine wpList_alloc rfl _ rfl _ (zero24 _) #[.slice none 0 0, .slice none 0 0, .int .i64 0] rfl ?_; intro g_k8 w9 hg_k8 k8 f9; have zf_k8 := f.size; have hl_k8 := k8.lt; have z9 := f9.size; replace f := f.fr f9; (try replace ho1 := ho1.fr f9); (try replace ho2 := ho2.fr f9); (try (replace k4 := k4.fr f9; (try clear r_k4); have r_k4 := k4.cells)); (try clear r_k8); have r_k8 := k8.cells)
        | ((with_reducible refine gate_dst (N := 11) rfl ?_); refine wpList_bload k4 rfl _ _ rfl 0 3 rfl _ Try.underlying24 rfl size24 (by simp) #[.slice (some ⟨g1, 0, none⟩) 3 cp1, .slice (some ⟨g2, 0, none⟩) 3 cp2, .int .i64 b.locked] rfl ?_)
        | (go_at_call 56; (with_reducible refine (l1List1_c _ (.slice (some ⟨g1, 0, none⟩) 3 cp1) (.slice (some ⟨g2, 0, none⟩) 3 cp2) (.int .i64 b.locked)).mono ?_); rintro e w9 ⟨rfl, f9⟩; have z9 := f9.size; replace f := f.fr f9; (try replace ho1 := ho1.fr f9); (try replace ho2 := ho2.fr f9); (try (replace k4 := k4.fr f9; (try clear r_k4); have r_k4 := k4.cells)); (try (replace k8 := k8.fr f9; (try clear r_k8); have r_k8 := k8.cells)); have hcy := orow_cell ho1 (i := fr.toNat - 1) LI.out; rw [at0_get LI.out, HX.out] at hcy)
        | ((with_reducible refine gate_dst (N := 21) rfl ?_); refine wpList_bload k4 rfl _ _ rfl 0 3 rfl _ Try.underlying24 rfl size24 (by simp) #[.slice (some ⟨g1, 0, none⟩) 3 cp1, .slice (some ⟨g2, 0, none⟩) 3 cp2, .int .i64 b.locked] rfl ?_)
        | ((with_reducible refine gate_store (p := 8) rfl ?_); refine wpList_bstore k8 rfl _ _ _ rfl 0 3 rfl (.agg #[.slice (some ⟨g1, 0, none⟩) 3 cp1, .slice (some ⟨g2, 0, none⟩) 3 cp2, .int .i64 b.locked]) rfl #[.slice (some ⟨g1, 0, none⟩) 3 cp1, .slice (some ⟨g2, 0, none⟩) 3 cp2, .int .i64 b.locked] rfl rfl size24 (by simp) (by intro u hu; simp at hu; rcases hu with rfl | rfl | rfl; exact ho1.one; exact ho2.one; rfl) #[.slice (some ⟨g1, 0, none⟩) 3 cp1, .slice (some ⟨g2, 0, none⟩) 3 cp2, .int .i64 b.locked] rfl ?_; intro w9 k9 c9; have z9 := c9.size; replace f := f.trans c9 (fun q hq => .inr (by have := List.mem_singleton.1 hq; have := f.size; omega)); (try replace ho1 := ho1.chg c9 (fun q hq hm => by have := hb1 q hq; have := hu1 q hq; have := List.mem_singleton.1 hm; omega)); (try replace ho2 := ho2.chg c9 (fun q hq hm => by have := hb2 q hq; have := hu2 q hq; have := List.mem_singleton.1 hm; omega)); (try (replace k4 := k4.chg c9 (fun hm => by have := List.mem_singleton.1 hm; omega); (try clear r_k4); have r_k4 := k4.cells)); replace k8 := k9; clear k9; (try clear r_k8); have r_k8 := k8.cells))
      exact bodyPost_ret (v := .tuple #[.agg #[.slice (some ⟨g1, 0, none⟩) 3 cp1, .slice (some ⟨g2, 0, none⟩) 3 cp2, .int .i64 b.locked], .bool false]) (results_cell_row2 rfl _ _ g_k8 _ _ _ _ rfl k8.blk Try.underlying24 rfl size24 _ rfl) rfl ⟨[.slice (some ⟨g1, 0, none⟩) 3 cp1, .slice (some ⟨g2, 0, none⟩) 3 cp2, .int .i64 b.locked], rfl, ⟨_, _, F1, F2, rfl, rfl, ho1, ho2, h13⟩, f⟩
    have hle : s ≤ x := by omega
    have ltf : decide (x < s) = false := decide_eq_false hlt
    rw [if_pos hle, decide_eq_true hle]
    obtain ⟨ys, hys⟩ : ∃ ys, addAt b.own (fr.toNat - 1) (-s) = ys := ⟨_, rfl⟩
    have hy1 : b.own.set (fr.toNat - 1) (x - s) = ys := by rw [← hys, addAt, hx, show x - s = x + -s from Int.sub_eq_add_neg]
    rw [show awayBk b 1 fr s = (⟨ys, b.notes, b.locked + s⟩ : Bk) by rw [← hys]; rfl]
    have HX := Lib.hid hx
    have HY := Lib.hid hy1
    clear hx hy1 hys ln1 ln2
    have hI : I64 (b.locked + s) := by unfold I64; omega
    go_enter Try.func62, Try.ntmps62
    go_wp2_with (first
      | ((with_reducible refine gate_dst (N := 4) rfl ?_); refine wpList_box rfl _ _ rfl #[.slice (some ⟨g1, 0, none⟩) 3 cp1, .slice (some ⟨g2, 0, none⟩) 3 cp2, .int .i64 b.locked] rfl ?_; intro g_k4 w9 hg_k4 k4 f9; have zf_k4 := f.size; have hl_k4 := k4.lt; have z9 := f9.size; replace f := f.fr f9; (try replace ho1 := ho1.fr f9); (try replace ho2 := ho2.fr f9); (try (replace k8 := k8.fr f9; (try clear r_k8); have r_k8 := k8.cells)); (try clear r_k4); have r_k4 := k4.cells)
      | ((with_reducible refine gate_dst (N := 8) rfl ?_); refine wpList_alloc rfl _ rfl _ (zero24 _) #[.slice none 0 0, .slice none 0 0, .int .i64 0] rfl ?_; intro g_k8 w9 hg_k8 k8 f9; have zf_k8 := f.size; have hl_k8 := k8.lt; have z9 := f9.size; replace f := f.fr f9; (try replace ho1 := ho1.fr f9); (try replace ho2 := ho2.fr f9); (try (replace k4 := k4.fr f9; (try clear r_k4); have r_k4 := k4.cells)); (try clear r_k8); have r_k8 := k8.cells)
      | ((with_reducible refine gate_dst (N := 11) rfl ?_); refine wpList_bload k4 rfl _ _ rfl 0 3 rfl _ Try.underlying24 rfl size24 (by simp) #[.slice (some ⟨g1, 0, none⟩) 3 cp1, .slice (some ⟨g2, 0, none⟩) 3 cp2, .int .i64 b.locked] rfl ?_)
      | (go_at_call 56; (with_reducible refine (l1List1_c _ (.slice (some ⟨g1, 0, none⟩) 3 cp1) (.slice (some ⟨g2, 0, none⟩) 3 cp2) (.int .i64 b.locked)).mono ?_); rintro e w9 ⟨rfl, f9⟩; have z9 := f9.size; replace f := f.fr f9; (try replace ho1 := ho1.fr f9); (try replace ho2 := ho2.fr f9); (try (replace k4 := k4.fr f9; (try clear r_k4); have r_k4 := k4.cells)); (try (replace k8 := k8.fr f9; (try clear r_k8); have r_k8 := k8.cells)); have hcy := orow_cell ho1 (i := fr.toNat - 1) LI.out; rw [at0_get LI.out, HX.out] at hcy)
      | ((with_reducible refine gate_store (p := 32) rfl ?_); refine wpList_ostore ho1 (i := fr.toNat - 1) LI.out rfl _ _ _ rfl rfl (x - s) rfl size3 ?_; intro w9 h9 c9; rw [HY.out] at h9; have z9 := c9.size; replace f := f.trans c9 (fun q hq => .inl (List.mem_append_left _ hq)); replace ho1 := h9; clear h9; replace ho2 := ho2.chg c9 (fun q hq hm => DJ q hm q hq rfl); replace k4 := k4.chg c9 (fun hm => by have := hu1 _ hm; omega); replace k8 := k8.chg c9 (fun hm => by have := hu1 _ hm; omega); (try clear r_k4); (try clear r_k8); have r_k4 := k4.cells; (try clear hcy))
      | ((with_reducible refine gate_store (p := 39) rfl ?_); refine wpList_bstore1 k4 rfl _ _ _ rfl 2 rfl (.int .i64 (b.locked + s)) rfl (rfl) size3 (by simp) #[.slice (some ⟨g1, 0, none⟩) 3 cp1, .slice (some ⟨g2, 0, none⟩) 3 cp2, .int .i64 (b.locked + s)] rfl ?_; intro w9 k9 c9; have z9 := c9.size; replace f := f.trans c9 (fun q hq => .inr (by have := List.mem_singleton.1 hq; have := f.size; omega)); (try replace ho1 := ho1.chg c9 (fun q hq hm => by have := hb1 q hq; have := hu1 q hq; have := List.mem_singleton.1 hm; omega)); (try replace ho2 := ho2.chg c9 (fun q hq hm => by have := hb2 q hq; have := hu2 q hq; have := List.mem_singleton.1 hm; omega)); (try (replace k8 := k8.chg c9 (fun hm => by have := List.mem_singleton.1 hm; omega); (try clear r_k8); have r_k8 := k8.cells)); replace k4 := k9; clear k9; (try clear r_k4); have r_k4 := k4.cells)
      | ((with_reducible refine gate_dst (N := 40) rfl ?_); refine wpList_bload k4 rfl _ _ rfl 0 3 rfl _ Try.underlying24 rfl size24 (by simp) #[.slice (some ⟨g1, 0, none⟩) 3 cp1, .slice (some ⟨g2, 0, none⟩) 3 cp2, .int .i64 (b.locked + s)] rfl ?_)
      | ((with_reducible refine gate_store (p := 8) rfl ?_); refine wpList_bstore k8 rfl _ _ _ rfl 0 3 rfl (.agg #[.slice (some ⟨g1, 0, none⟩) 3 cp1, .slice (some ⟨g2, 0, none⟩) 3 cp2, .int .i64 (b.locked + s)]) rfl #[.slice (some ⟨g1, 0, none⟩) 3 cp1, .slice (some ⟨g2, 0, none⟩) 3 cp2, .int .i64 (b.locked + s)] rfl rfl size24 (by simp) (by intro u hu; simp at hu; rcases hu with rfl | rfl | rfl; exact ho1.one; exact ho2.one; rfl) #[.slice (some ⟨g1, 0, none⟩) 3 cp1, .slice (some ⟨g2, 0, none⟩) 3 cp2, .int .i64 (b.locked + s)] rfl ?_; intro w9 k9 c9; have z9 := c9.size; replace f := f.trans c9 (fun q hq => .inr (by have := List.mem_singleton.1 hq; have := f.size; omega)); (try replace ho1 := ho1.chg c9 (fun q hq hm => by have := hb1 q hq; have := hu1 q hq; have := List.mem_singleton.1 hm; omega)); (try replace ho2 := ho2.chg c9 (fun q hq hm => by have := hb2 q hq; have := hu2 q hq; have := List.mem_singleton.1 hm; omega)); (try (replace k4 := k4.chg c9 (fun hm => by have := List.mem_singleton.1 hm; omega); (try clear r_k4); have r_k4 := k4.cells)); replace k8 := k9; clear k9; (try clear r_k8); have r_k8 := k8.cells))
    exact bodyPost_ret (v := .tuple #[.agg #[.slice (some ⟨g1, 0, none⟩) 3 cp1, .slice (some ⟨g2, 0, none⟩) 3 cp2, .int .i64 (b.locked + s)], .bool true]) (results_cell_row2 rfl _ _ g_k8 _ _ _ _ rfl k8.blk Try.underlying24 rfl size24 _ rfl) rfl ⟨[.slice (some ⟨g1, 0, none⟩) 3 cp1, .slice (some ⟨g2, 0, none⟩) 3 cp2, .int .i64 (b.locked + s)], rfl, ⟨_, _, F1, F2, rfl, rfl, ho1, ho2, hI⟩, f⟩
  · skip
    have bx := okL_get q2 (fr.toNat - 1) (by omega)
    rw [at0_get (by omega)] at bx
    rw [show lst b 2 = b.notes from rfl]
    obtain ⟨x, hx⟩ : ∃ x, at0 b.notes (fr.toNat - 1) = x := ⟨_, rfl⟩
    rw [hx] at bx ⊢
    have LI := Lib.hid (show fr.toNat - 1 < b.notes.length by omega)
    by_cases hlt : x < s
    · have HX := Lib.hid hx
      clear hx ln1 ln2
      rw [if_neg (by omega), decide_eq_false (by omega)]
      go_enter Try.func62, Try.ntmps62
      go_wp2_with (first
        | ((with_reducible refine gate_dst (N := 4) rfl ?_); refine wpList_box rfl _ _ rfl #[.slice (some ⟨g1, 0, none⟩) 3 cp1, .slice (some ⟨g2, 0, none⟩) 3 cp2, .int .i64 b.locked] rfl ?_; intro g_k4 w9 hg_k4 k4 f9; have zf_k4 := f.size; have hl_k4 := k4.lt; have z9 := f9.size; replace f := f.fr f9; (try replace ho1 := ho1.fr f9); (try replace ho2 := ho2.fr f9); (try (replace k8 := k8.fr f9; (try clear r_k8); have r_k8 := k8.cells)); (try clear r_k4); have r_k4 := k4.cells)
        | ((with_reducible refine gate_dst (N := 8) rfl ?_); refine wpList_alloc rfl _ rfl _ (zero24 _) #[.slice none 0 0, .slice none 0 0, .int .i64 0] rfl ?_; intro g_k8 w9 hg_k8 k8 f9; have zf_k8 := f.size; have hl_k8 := k8.lt; have z9 := f9.size; replace f := f.fr f9; (try replace ho1 := ho1.fr f9); (try replace ho2 := ho2.fr f9); (try (replace k4 := k4.fr f9; (try clear r_k4); have r_k4 := k4.cells)); (try clear r_k8); have r_k8 := k8.cells)
        | ((with_reducible refine gate_dst (N := 11) rfl ?_); refine wpList_bload k4 rfl _ _ rfl 0 3 rfl _ Try.underlying24 rfl size24 (by simp) #[.slice (some ⟨g1, 0, none⟩) 3 cp1, .slice (some ⟨g2, 0, none⟩) 3 cp2, .int .i64 b.locked] rfl ?_)
        | (go_at_call 56; (with_reducible refine (l1List2_c _ (.slice (some ⟨g1, 0, none⟩) 3 cp1) (.slice (some ⟨g2, 0, none⟩) 3 cp2) (.int .i64 b.locked) 2 (by decide)).mono ?_); rintro e w9 ⟨rfl, f9⟩; have z9 := f9.size; replace f := f.fr f9; (try replace ho1 := ho1.fr f9); (try replace ho2 := ho2.fr f9); (try (replace k4 := k4.fr f9; (try clear r_k4); have r_k4 := k4.cells)); (try (replace k8 := k8.fr f9; (try clear r_k8); have r_k8 := k8.cells)); have hcy := orow_cell ho2 (i := fr.toNat - 1) LI.out; rw [at0_get LI.out, HX.out] at hcy)
        | ((with_reducible refine gate_dst (N := 21) rfl ?_); refine wpList_bload k4 rfl _ _ rfl 0 3 rfl _ Try.underlying24 rfl size24 (by simp) #[.slice (some ⟨g1, 0, none⟩) 3 cp1, .slice (some ⟨g2, 0, none⟩) 3 cp2, .int .i64 b.locked] rfl ?_)
        | ((with_reducible refine gate_store (p := 8) rfl ?_); refine wpList_bstore k8 rfl _ _ _ rfl 0 3 rfl (.agg #[.slice (some ⟨g1, 0, none⟩) 3 cp1, .slice (some ⟨g2, 0, none⟩) 3 cp2, .int .i64 b.locked]) rfl #[.slice (some ⟨g1, 0, none⟩) 3 cp1, .slice (some ⟨g2, 0, none⟩) 3 cp2, .int .i64 b.locked] rfl rfl size24 (by simp) (by intro u hu; simp at hu; rcases hu with rfl | rfl | rfl; exact ho1.one; exact ho2.one; rfl) #[.slice (some ⟨g1, 0, none⟩) 3 cp1, .slice (some ⟨g2, 0, none⟩) 3 cp2, .int .i64 b.locked] rfl ?_; intro w9 k9 c9; have z9 := c9.size; replace f := f.trans c9 (fun q hq => .inr (by have := List.mem_singleton.1 hq; have := f.size; omega)); (try replace ho1 := ho1.chg c9 (fun q hq hm => by have := hb1 q hq; have := hu1 q hq; have := List.mem_singleton.1 hm; omega)); (try replace ho2 := ho2.chg c9 (fun q hq hm => by have := hb2 q hq; have := hu2 q hq; have := List.mem_singleton.1 hm; omega)); (try (replace k4 := k4.chg c9 (fun hm => by have := List.mem_singleton.1 hm; omega); (try clear r_k4); have r_k4 := k4.cells)); replace k8 := k9; clear k9; (try clear r_k8); have r_k8 := k8.cells))
      exact bodyPost_ret (v := .tuple #[.agg #[.slice (some ⟨g1, 0, none⟩) 3 cp1, .slice (some ⟨g2, 0, none⟩) 3 cp2, .int .i64 b.locked], .bool false]) (results_cell_row2 rfl _ _ g_k8 _ _ _ _ rfl k8.blk Try.underlying24 rfl size24 _ rfl) rfl ⟨[.slice (some ⟨g1, 0, none⟩) 3 cp1, .slice (some ⟨g2, 0, none⟩) 3 cp2, .int .i64 b.locked], rfl, ⟨_, _, F1, F2, rfl, rfl, ho1, ho2, h13⟩, f⟩
    have hle : s ≤ x := by omega
    have ltf : decide (x < s) = false := decide_eq_false hlt
    rw [if_pos hle, decide_eq_true hle]
    obtain ⟨ys, hys⟩ : ∃ ys, addAt b.notes (fr.toNat - 1) (-s) = ys := ⟨_, rfl⟩
    have hy1 : b.notes.set (fr.toNat - 1) (x - s) = ys := by rw [← hys, addAt, hx, show x - s = x + -s from Int.sub_eq_add_neg]
    rw [show awayBk b 2 fr s = (⟨b.own, ys, b.locked⟩ : Bk) by rw [← hys]; rfl]
    have HX := Lib.hid hx
    have HY := Lib.hid hy1
    clear hx hy1 hys ln1 ln2
    have hI : I64 (b.locked) := by unfold I64; exact h13
    go_enter Try.func62, Try.ntmps62
    go_wp2_with (first
      | ((with_reducible refine gate_dst (N := 4) rfl ?_); refine wpList_box rfl _ _ rfl #[.slice (some ⟨g1, 0, none⟩) 3 cp1, .slice (some ⟨g2, 0, none⟩) 3 cp2, .int .i64 b.locked] rfl ?_; intro g_k4 w9 hg_k4 k4 f9; have zf_k4 := f.size; have hl_k4 := k4.lt; have z9 := f9.size; replace f := f.fr f9; (try replace ho1 := ho1.fr f9); (try replace ho2 := ho2.fr f9); (try (replace k8 := k8.fr f9; (try clear r_k8); have r_k8 := k8.cells)); (try clear r_k4); have r_k4 := k4.cells)
      | ((with_reducible refine gate_dst (N := 8) rfl ?_); refine wpList_alloc rfl _ rfl _ (zero24 _) #[.slice none 0 0, .slice none 0 0, .int .i64 0] rfl ?_; intro g_k8 w9 hg_k8 k8 f9; have zf_k8 := f.size; have hl_k8 := k8.lt; have z9 := f9.size; replace f := f.fr f9; (try replace ho1 := ho1.fr f9); (try replace ho2 := ho2.fr f9); (try (replace k4 := k4.fr f9; (try clear r_k4); have r_k4 := k4.cells)); (try clear r_k8); have r_k8 := k8.cells)
      | ((with_reducible refine gate_dst (N := 11) rfl ?_); refine wpList_bload k4 rfl _ _ rfl 0 3 rfl _ Try.underlying24 rfl size24 (by simp) #[.slice (some ⟨g1, 0, none⟩) 3 cp1, .slice (some ⟨g2, 0, none⟩) 3 cp2, .int .i64 b.locked] rfl ?_)
      | (go_at_call 56; (with_reducible refine (l1List2_c _ (.slice (some ⟨g1, 0, none⟩) 3 cp1) (.slice (some ⟨g2, 0, none⟩) 3 cp2) (.int .i64 b.locked) 2 (by decide)).mono ?_); rintro e w9 ⟨rfl, f9⟩; have z9 := f9.size; replace f := f.fr f9; (try replace ho1 := ho1.fr f9); (try replace ho2 := ho2.fr f9); (try (replace k4 := k4.fr f9; (try clear r_k4); have r_k4 := k4.cells)); (try (replace k8 := k8.fr f9; (try clear r_k8); have r_k8 := k8.cells)); have hcy := orow_cell ho2 (i := fr.toNat - 1) LI.out; rw [at0_get LI.out, HX.out] at hcy)
      | ((with_reducible refine gate_store (p := 32) rfl ?_); refine wpList_ostore ho2 (i := fr.toNat - 1) LI.out rfl _ _ _ rfl rfl (x - s) rfl size3 ?_; intro w9 h9 c9; rw [HY.out] at h9; have z9 := c9.size; replace f := f.trans c9 (fun q hq => .inl (List.mem_append_right _ hq)); replace ho2 := h9; clear h9; replace ho1 := ho1.chg c9 (fun q hq hm => DJ q hq q hm rfl); replace k4 := k4.chg c9 (fun hm => by have := hu2 _ hm; omega); replace k8 := k8.chg c9 (fun hm => by have := hu2 _ hm; omega); (try clear r_k4); (try clear r_k8); have r_k4 := k4.cells; (try clear hcy))
      | ((with_reducible refine gate_dst (N := 40) rfl ?_); refine wpList_bload k4 rfl _ _ rfl 0 3 rfl _ Try.underlying24 rfl size24 (by simp) #[.slice (some ⟨g1, 0, none⟩) 3 cp1, .slice (some ⟨g2, 0, none⟩) 3 cp2, .int .i64 b.locked] rfl ?_)
      | ((with_reducible refine gate_store (p := 8) rfl ?_); refine wpList_bstore k8 rfl _ _ _ rfl 0 3 rfl (.agg #[.slice (some ⟨g1, 0, none⟩) 3 cp1, .slice (some ⟨g2, 0, none⟩) 3 cp2, .int .i64 b.locked]) rfl #[.slice (some ⟨g1, 0, none⟩) 3 cp1, .slice (some ⟨g2, 0, none⟩) 3 cp2, .int .i64 b.locked] rfl rfl size24 (by simp) (by intro u hu; simp at hu; rcases hu with rfl | rfl | rfl; exact ho1.one; exact ho2.one; rfl) #[.slice (some ⟨g1, 0, none⟩) 3 cp1, .slice (some ⟨g2, 0, none⟩) 3 cp2, .int .i64 b.locked] rfl ?_; intro w9 k9 c9; have z9 := c9.size; replace f := f.trans c9 (fun q hq => .inr (by have := List.mem_singleton.1 hq; have := f.size; omega)); (try replace ho1 := ho1.chg c9 (fun q hq hm => by have := hb1 q hq; have := hu1 q hq; have := List.mem_singleton.1 hm; omega)); (try replace ho2 := ho2.chg c9 (fun q hq hm => by have := hb2 q hq; have := hu2 q hq; have := List.mem_singleton.1 hm; omega)); (try (replace k4 := k4.chg c9 (fun hm => by have := List.mem_singleton.1 hm; omega); (try clear r_k4); have r_k4 := k4.cells)); replace k8 := k9; clear k9; (try clear r_k8); have r_k8 := k8.cells))
    exact bodyPost_ret (v := .tuple #[.agg #[.slice (some ⟨g1, 0, none⟩) 3 cp1, .slice (some ⟨g2, 0, none⟩) 3 cp2, .int .i64 b.locked], .bool true]) (results_cell_row2 rfl _ _ g_k8 _ _ _ _ rfl k8.blk Try.underlying24 rfl size24 _ rfl) rfl ⟨[.slice (some ⟨g1, 0, none⟩) 3 cp1, .slice (some ⟨g2, 0, none⟩) 3 cp2, .int .i64 b.locked], rfl, ⟨_, _, F1, F2, rfl, rfl, ho1, ho2, hI⟩, f⟩
set_option maxHeartbeats 3200000 in
theorem sBankAway_c (w : World) (b : Bk) (c1 : List Value) (h1 : tBk.rd w b c1) (k fr s : Int) (bk : I64 k) (bf : I64 fr) (bs : I64 s) : Calls Try.prog 35 #[.agg c1.toArray, .int .i64 k, .int .i64 fr, .int .i64 s] w (RetOwn2 tBk (awayR b k fr s) w) := by
  obtain ⟨v1, v2, rfl, h11, h12, h13⟩ := h1
  have f := Fr.refl w
  unfold I64 at bk bf bs
  cases d1 : okBk b with
  | false =>
    have e := Lib.hid (show awayR b k fr s = (nilBk, false) by unfold awayR; rw [if_neg (by simp only [awOk, d1]; simp)])
    have Dd1 := Lib.hid d1
    clear d1
    go_enter Try.func35, Try.ntmps35
    go_wp2_with (first
      | ((with_reducible refine gate_dst (N := 4) rfl ?_); refine wpList_box rfl _ _ rfl #[v1, v2, .int .i64 b.locked] rfl ?_; intro g_k4 w9 hg_k4 k4 f9; have zf_k4 := f.size; have hl_k4 := k4.lt; have z9 := f9.size; replace f := f.trans f9; (try replace ho := ho.fr f9); (try (replace k8 := k8.fr f9; (try clear r_k8); have r_k8 := k8.cells)); (try (replace k10 := k10.fr f9; (try clear r_k10); have r_k10 := k10.cells)); (try clear r_k4); have r_k4 := k4.cells)
      | ((with_reducible refine gate_dst (N := 8) rfl ?_); refine wpList_alloc rfl _ rfl _ (zero24 _) #[.slice none 0 0, .slice none 0 0, .int .i64 0] rfl ?_; intro g_k8 w9 hg_k8 k8 f9; have zf_k8 := f.size; have hl_k8 := k8.lt; have z9 := f9.size; replace f := f.trans f9; (try replace ho := ho.fr f9); (try (replace k4 := k4.fr f9; (try clear r_k4); have r_k4 := k4.cells)); (try (replace k10 := k10.fr f9; (try clear r_k10); have r_k10 := k10.cells)); (try clear r_k8); have r_k8 := k8.cells)
      | (go_at_call 24; (with_reducible refine (sBankOk_c _ b [v1, v2, .int .i64 b.locked] (tBk_mk (h11.fr f) (h12.fr f) h13)).mono ?_); rintro e w9 ⟨rfl, f9⟩; (try rw [Dd1.out]); have z9 := f9.size; replace f := f.trans f9; (try replace ho := ho.fr f9); (try (replace k4 := k4.fr f9; (try clear r_k4); have r_k4 := k4.cells)); (try (replace k8 := k8.fr f9; (try clear r_k8); have r_k8 := k8.cells)); (try (replace k10 := k10.fr f9; (try clear r_k10); have r_k10 := k10.cells)))
      | (go_at_call 54; (with_reducible refine (l6In_c _ _ _ _).mono ?_); rintro e w9 ⟨rfl, rfl⟩; (try rw [Dd1.out]))
      | (go_at_call 55; (with_reducible refine (l1User_c _ _).mono ?_); rintro e w9 ⟨rfl, rfl⟩; (try rw [Dd1.out]))
      | ((with_reducible refine gate_store (p := 8) rfl ?_); refine wpList_bstore k8 rfl _ _ _ rfl 0 3 rfl (.agg #[.slice none 0 0, .slice none 0 0, .int .i64 0]) rfl #[.slice none 0 0, .slice none 0 0, .int .i64 0] rfl rfl size24 (by simp) (by intro u hu; simp at hu; rcases hu with rfl | rfl <;> rfl) #[.slice none 0 0, .slice none 0 0, .int .i64 0] rfl ?_; intro w9 k9 c9; have z9 := c9.size; replace f := f.own c9 (fun q hq => by have := List.mem_singleton.1 hq; have := f.size; omega); (try replace ho := ho.chg c9 (fun q hq hm => by have := hb q hq; have := hu q hq; have := List.mem_singleton.1 hm; omega)); (try (replace k4 := k4.chg c9 (fun hm => by have := List.mem_singleton.1 hm; omega); (try clear r_k4); have r_k4 := k4.cells)); (try (replace k10 := k10.chg c9 (fun hm => by have := List.mem_singleton.1 hm; omega); (try clear r_k10); have r_k10 := k10.cells)); replace k8 := k9; clear k9; (try clear r_k8); have r_k8 := k8.cells))
    exact bodyPost_ret (v := .tuple #[.agg #[.slice none 0 0, .slice none 0 0, .int .i64 0], .bool false]) (results_cell_row2 rfl _ _ g_k8 _ _ _ _ rfl k8.blk Try.underlying24 rfl size24 _ rfl) rfl ⟨[.slice none 0 0, .slice none 0 0, .int .i64 0], [], by rw [e.out], by rw [e.out]; exact nilBk_own _, by simp, by simp, f⟩
  | true =>
  cases d2 : decide (1 ≤ k ∧ k ≤ 2) with
  | false =>
    have e := Lib.hid (show awayR b k fr s = (nilBk, false) by unfold awayR; rw [if_neg (by simp only [awOk, d1, d2]; simp)])
    have Dd1 := Lib.hid d1
    clear d1
    have Dd2 := Lib.hid d2
    clear d2
    go_enter Try.func35, Try.ntmps35
    go_wp2_with (first
      | ((with_reducible refine gate_dst (N := 4) rfl ?_); refine wpList_box rfl _ _ rfl #[v1, v2, .int .i64 b.locked] rfl ?_; intro g_k4 w9 hg_k4 k4 f9; have zf_k4 := f.size; have hl_k4 := k4.lt; have z9 := f9.size; replace f := f.trans f9; (try replace ho := ho.fr f9); (try (replace k8 := k8.fr f9; (try clear r_k8); have r_k8 := k8.cells)); (try (replace k10 := k10.fr f9; (try clear r_k10); have r_k10 := k10.cells)); (try clear r_k4); have r_k4 := k4.cells)
      | ((with_reducible refine gate_dst (N := 8) rfl ?_); refine wpList_alloc rfl _ rfl _ (zero24 _) #[.slice none 0 0, .slice none 0 0, .int .i64 0] rfl ?_; intro g_k8 w9 hg_k8 k8 f9; have zf_k8 := f.size; have hl_k8 := k8.lt; have z9 := f9.size; replace f := f.trans f9; (try replace ho := ho.fr f9); (try (replace k4 := k4.fr f9; (try clear r_k4); have r_k4 := k4.cells)); (try (replace k10 := k10.fr f9; (try clear r_k10); have r_k10 := k10.cells)); (try clear r_k8); have r_k8 := k8.cells)
      | (go_at_call 24; (with_reducible refine (sBankOk_c _ b [v1, v2, .int .i64 b.locked] (tBk_mk (h11.fr f) (h12.fr f) h13)).mono ?_); rintro e w9 ⟨rfl, f9⟩; (try rw [Dd1.out]); (try rw [Dd2.out]); have z9 := f9.size; replace f := f.trans f9; (try replace ho := ho.fr f9); (try (replace k4 := k4.fr f9; (try clear r_k4); have r_k4 := k4.cells)); (try (replace k8 := k8.fr f9; (try clear r_k8); have r_k8 := k8.cells)); (try (replace k10 := k10.fr f9; (try clear r_k10); have r_k10 := k10.cells)))
      | (go_at_call 54; (with_reducible refine (l6In_c _ _ _ _).mono ?_); rintro e w9 ⟨rfl, rfl⟩; (try rw [Dd1.out]); (try rw [Dd2.out]))
      | (go_at_call 55; (with_reducible refine (l1User_c _ _).mono ?_); rintro e w9 ⟨rfl, rfl⟩; (try rw [Dd1.out]); (try rw [Dd2.out]))
      | ((with_reducible refine gate_store (p := 8) rfl ?_); refine wpList_bstore k8 rfl _ _ _ rfl 0 3 rfl (.agg #[.slice none 0 0, .slice none 0 0, .int .i64 0]) rfl #[.slice none 0 0, .slice none 0 0, .int .i64 0] rfl rfl size24 (by simp) (by intro u hu; simp at hu; rcases hu with rfl | rfl <;> rfl) #[.slice none 0 0, .slice none 0 0, .int .i64 0] rfl ?_; intro w9 k9 c9; have z9 := c9.size; replace f := f.own c9 (fun q hq => by have := List.mem_singleton.1 hq; have := f.size; omega); (try replace ho := ho.chg c9 (fun q hq hm => by have := hb q hq; have := hu q hq; have := List.mem_singleton.1 hm; omega)); (try (replace k4 := k4.chg c9 (fun hm => by have := List.mem_singleton.1 hm; omega); (try clear r_k4); have r_k4 := k4.cells)); (try (replace k10 := k10.chg c9 (fun hm => by have := List.mem_singleton.1 hm; omega); (try clear r_k10); have r_k10 := k10.cells)); replace k8 := k9; clear k9; (try clear r_k8); have r_k8 := k8.cells))
    exact bodyPost_ret (v := .tuple #[.agg #[.slice none 0 0, .slice none 0 0, .int .i64 0], .bool false]) (results_cell_row2 rfl _ _ g_k8 _ _ _ _ rfl k8.blk Try.underlying24 rfl size24 _ rfl) rfl ⟨[.slice none 0 0, .slice none 0 0, .int .i64 0], [], by rw [e.out], by rw [e.out]; exact nilBk_own _, by simp, by simp, f⟩
  | true =>
  cases d3 : decide (1 ≤ fr ∧ fr ≤ 3) with
  | false =>
    have e := Lib.hid (show awayR b k fr s = (nilBk, false) by unfold awayR; rw [if_neg (by simp only [awOk, d1, d2, d3]; simp)])
    have Dd1 := Lib.hid d1
    clear d1
    have Dd2 := Lib.hid d2
    clear d2
    have Dd3 := Lib.hid d3
    clear d3
    go_enter Try.func35, Try.ntmps35
    go_wp2_with (first
      | ((with_reducible refine gate_dst (N := 4) rfl ?_); refine wpList_box rfl _ _ rfl #[v1, v2, .int .i64 b.locked] rfl ?_; intro g_k4 w9 hg_k4 k4 f9; have zf_k4 := f.size; have hl_k4 := k4.lt; have z9 := f9.size; replace f := f.trans f9; (try replace ho := ho.fr f9); (try (replace k8 := k8.fr f9; (try clear r_k8); have r_k8 := k8.cells)); (try (replace k10 := k10.fr f9; (try clear r_k10); have r_k10 := k10.cells)); (try clear r_k4); have r_k4 := k4.cells)
      | ((with_reducible refine gate_dst (N := 8) rfl ?_); refine wpList_alloc rfl _ rfl _ (zero24 _) #[.slice none 0 0, .slice none 0 0, .int .i64 0] rfl ?_; intro g_k8 w9 hg_k8 k8 f9; have zf_k8 := f.size; have hl_k8 := k8.lt; have z9 := f9.size; replace f := f.trans f9; (try replace ho := ho.fr f9); (try (replace k4 := k4.fr f9; (try clear r_k4); have r_k4 := k4.cells)); (try (replace k10 := k10.fr f9; (try clear r_k10); have r_k10 := k10.cells)); (try clear r_k8); have r_k8 := k8.cells)
      | (go_at_call 24; (with_reducible refine (sBankOk_c _ b [v1, v2, .int .i64 b.locked] (tBk_mk (h11.fr f) (h12.fr f) h13)).mono ?_); rintro e w9 ⟨rfl, f9⟩; (try rw [Dd1.out]); (try rw [Dd2.out]); (try rw [Dd3.out]); have z9 := f9.size; replace f := f.trans f9; (try replace ho := ho.fr f9); (try (replace k4 := k4.fr f9; (try clear r_k4); have r_k4 := k4.cells)); (try (replace k8 := k8.fr f9; (try clear r_k8); have r_k8 := k8.cells)); (try (replace k10 := k10.fr f9; (try clear r_k10); have r_k10 := k10.cells)))
      | (go_at_call 54; (with_reducible refine (l6In_c _ _ _ _).mono ?_); rintro e w9 ⟨rfl, rfl⟩; (try rw [Dd1.out]); (try rw [Dd2.out]); (try rw [Dd3.out]))
      | (go_at_call 55; (with_reducible refine (l1User_c _ _).mono ?_); rintro e w9 ⟨rfl, rfl⟩; (try rw [Dd1.out]); (try rw [Dd2.out]); (try rw [Dd3.out]))
      | ((with_reducible refine gate_store (p := 8) rfl ?_); refine wpList_bstore k8 rfl _ _ _ rfl 0 3 rfl (.agg #[.slice none 0 0, .slice none 0 0, .int .i64 0]) rfl #[.slice none 0 0, .slice none 0 0, .int .i64 0] rfl rfl size24 (by simp) (by intro u hu; simp at hu; rcases hu with rfl | rfl <;> rfl) #[.slice none 0 0, .slice none 0 0, .int .i64 0] rfl ?_; intro w9 k9 c9; have z9 := c9.size; replace f := f.own c9 (fun q hq => by have := List.mem_singleton.1 hq; have := f.size; omega); (try replace ho := ho.chg c9 (fun q hq hm => by have := hb q hq; have := hu q hq; have := List.mem_singleton.1 hm; omega)); (try (replace k4 := k4.chg c9 (fun hm => by have := List.mem_singleton.1 hm; omega); (try clear r_k4); have r_k4 := k4.cells)); (try (replace k10 := k10.chg c9 (fun hm => by have := List.mem_singleton.1 hm; omega); (try clear r_k10); have r_k10 := k10.cells)); replace k8 := k9; clear k9; (try clear r_k8); have r_k8 := k8.cells))
    exact bodyPost_ret (v := .tuple #[.agg #[.slice none 0 0, .slice none 0 0, .int .i64 0], .bool false]) (results_cell_row2 rfl _ _ g_k8 _ _ _ _ rfl k8.blk Try.underlying24 rfl size24 _ rfl) rfl ⟨[.slice none 0 0, .slice none 0 0, .int .i64 0], [], by rw [e.out], by rw [e.out]; exact nilBk_own _, by simp, by simp, f⟩
  | true =>
  have hk2 := of_decide_eq_true d2
  have hfr := of_decide_eq_true d3
  by_cases hs : s < 0
  · have e := Lib.hid (show awayR b k fr s = (nilBk, false) by unfold awayR; rw [if_neg (by simp only [awOk, decide_eq_false (show ¬ 0 ≤ s by omega)]; simp)])
    have Dd1 := Lib.hid d1
    clear d1
    have Dd2 := Lib.hid d2
    clear d2
    have Dd3 := Lib.hid d3
    clear d3
    go_enter Try.func35, Try.ntmps35
    go_wp2_with (first
      | ((with_reducible refine gate_dst (N := 4) rfl ?_); refine wpList_box rfl _ _ rfl #[v1, v2, .int .i64 b.locked] rfl ?_; intro g_k4 w9 hg_k4 k4 f9; have zf_k4 := f.size; have hl_k4 := k4.lt; have z9 := f9.size; replace f := f.trans f9; (try replace ho := ho.fr f9); (try (replace k8 := k8.fr f9; (try clear r_k8); have r_k8 := k8.cells)); (try (replace k10 := k10.fr f9; (try clear r_k10); have r_k10 := k10.cells)); (try clear r_k4); have r_k4 := k4.cells)
      | ((with_reducible refine gate_dst (N := 8) rfl ?_); refine wpList_alloc rfl _ rfl _ (zero24 _) #[.slice none 0 0, .slice none 0 0, .int .i64 0] rfl ?_; intro g_k8 w9 hg_k8 k8 f9; have zf_k8 := f.size; have hl_k8 := k8.lt; have z9 := f9.size; replace f := f.trans f9; (try replace ho := ho.fr f9); (try (replace k4 := k4.fr f9; (try clear r_k4); have r_k4 := k4.cells)); (try (replace k10 := k10.fr f9; (try clear r_k10); have r_k10 := k10.cells)); (try clear r_k8); have r_k8 := k8.cells)
      | (go_at_call 24; (with_reducible refine (sBankOk_c _ b [v1, v2, .int .i64 b.locked] (tBk_mk (h11.fr f) (h12.fr f) h13)).mono ?_); rintro e w9 ⟨rfl, f9⟩; (try rw [Dd1.out]); (try rw [Dd2.out]); (try rw [Dd3.out]); have z9 := f9.size; replace f := f.trans f9; (try replace ho := ho.fr f9); (try (replace k4 := k4.fr f9; (try clear r_k4); have r_k4 := k4.cells)); (try (replace k8 := k8.fr f9; (try clear r_k8); have r_k8 := k8.cells)); (try (replace k10 := k10.fr f9; (try clear r_k10); have r_k10 := k10.cells)))
      | (go_at_call 54; (with_reducible refine (l6In_c _ _ _ _).mono ?_); rintro e w9 ⟨rfl, rfl⟩; (try rw [Dd1.out]); (try rw [Dd2.out]); (try rw [Dd3.out]))
      | (go_at_call 55; (with_reducible refine (l1User_c _ _).mono ?_); rintro e w9 ⟨rfl, rfl⟩; (try rw [Dd1.out]); (try rw [Dd2.out]); (try rw [Dd3.out]))
      | ((with_reducible refine gate_store (p := 8) rfl ?_); refine wpList_bstore k8 rfl _ _ _ rfl 0 3 rfl (.agg #[.slice none 0 0, .slice none 0 0, .int .i64 0]) rfl #[.slice none 0 0, .slice none 0 0, .int .i64 0] rfl rfl size24 (by simp) (by intro u hu; simp at hu; rcases hu with rfl | rfl <;> rfl) #[.slice none 0 0, .slice none 0 0, .int .i64 0] rfl ?_; intro w9 k9 c9; have z9 := c9.size; replace f := f.own c9 (fun q hq => by have := List.mem_singleton.1 hq; have := f.size; omega); (try replace ho := ho.chg c9 (fun q hq hm => by have := hb q hq; have := hu q hq; have := List.mem_singleton.1 hm; omega)); (try (replace k4 := k4.chg c9 (fun hm => by have := List.mem_singleton.1 hm; omega); (try clear r_k4); have r_k4 := k4.cells)); (try (replace k10 := k10.chg c9 (fun hm => by have := List.mem_singleton.1 hm; omega); (try clear r_k10); have r_k10 := k10.cells)); replace k8 := k9; clear k9; (try clear r_k8); have r_k8 := k8.cells))
    exact bodyPost_ret (v := .tuple #[.agg #[.slice none 0 0, .slice none 0 0, .int .i64 0], .bool false]) (results_cell_row2 rfl _ _ g_k8 _ _ _ _ rfl k8.blk Try.underlying24 rfl size24 _ rfl) rfl ⟨[.slice none 0 0, .slice none 0 0, .int .i64 0], [], by rw [e.out], by rw [e.out]; exact nilBk_own _, by simp, by simp, f⟩
  have hs0 : 0 ≤ s := by omega
  have hsf : decide (s < 0) = false := decide_eq_false hs
  obtain ⟨q1, q2, q3, q4, q5⟩ := okBk_split d1
  have HL := Lib.hid (show (0 < b.own.length ∧ 0 < b.notes.length) ∧ (b.own.length ≤ 2097152 ∧ b.notes.length ≤ 2097152) by have := okL_len q1; have := okL_len q2; omega)
  have HO := Lib.hid d1
  obtain ⟨x, hx⟩ : ∃ x, at0 (lst b k) (fr.toNat - 1) = x := ⟨_, rfl⟩
  by_cases hlt : s ≤ x
  rotate_left
  · have e := Lib.hid (show awayR b k fr s = (nilBk, false) from awayR_no d1 hk2 hfr hs0 (by rw [hx]; exact hlt))
    have E2 := Lib.hid (show (if s ≤ at0 (lst b k) (fr.toNat - 1) then awayBk b k fr s else b) = b ∧ decide (s ≤ at0 (lst b k) (fr.toNat - 1)) = false by rw [hx, if_neg hlt]; exact ⟨rfl, decide_eq_false hlt⟩)
    have Dd1 := Lib.hid d1
    clear d1
    have Dd2 := Lib.hid d2
    clear d2
    have Dd3 := Lib.hid d3
    clear d3
    go_enter Try.func35, Try.ntmps35
    go_wp2_with (first
      | ((with_reducible refine gate_dst (N := 4) rfl ?_); refine wpList_box rfl _ _ rfl #[v1, v2, .int .i64 b.locked] rfl ?_; intro g_k4 w9 hg_k4 k4 f9; have zf_k4 := f.size; have hl_k4 := k4.lt; have z9 := f9.size; replace f := f.trans f9; (try replace ho := ho.fr f9); (try (replace k8 := k8.fr f9; (try clear r_k8); have r_k8 := k8.cells)); (try (replace k10 := k10.fr f9; (try clear r_k10); have r_k10 := k10.cells)); (try clear r_k4); have r_k4 := k4.cells)
      | ((with_reducible refine gate_dst (N := 8) rfl ?_); refine wpList_alloc rfl _ rfl _ (zero24 _) #[.slice none 0 0, .slice none 0 0, .int .i64 0] rfl ?_; intro g_k8 w9 hg_k8 k8 f9; have zf_k8 := f.size; have hl_k8 := k8.lt; have z9 := f9.size; replace f := f.trans f9; (try replace ho := ho.fr f9); (try (replace k4 := k4.fr f9; (try clear r_k4); have r_k4 := k4.cells)); (try (replace k10 := k10.fr f9; (try clear r_k10); have r_k10 := k10.cells)); (try clear r_k8); have r_k8 := k8.cells)
      | (go_at_call 24; (with_reducible refine (sBankOk_c _ b [v1, v2, .int .i64 b.locked] (tBk_mk (h11.fr f) (h12.fr f) h13)).mono ?_); rintro e w9 ⟨rfl, f9⟩; (try rw [Dd1.out]); (try rw [Dd2.out]); (try rw [Dd3.out]); have z9 := f9.size; replace f := f.trans f9; (try replace ho := ho.fr f9); (try (replace k4 := k4.fr f9; (try clear r_k4); have r_k4 := k4.cells)); (try (replace k8 := k8.fr f9; (try clear r_k8); have r_k8 := k8.cells)); (try (replace k10 := k10.fr f9; (try clear r_k10); have r_k10 := k10.cells)))
      | (go_at_call 54; (with_reducible refine (l6In_c _ _ _ _).mono ?_); rintro e w9 ⟨rfl, rfl⟩; (try rw [Dd1.out]); (try rw [Dd2.out]); (try rw [Dd3.out]))
      | (go_at_call 55; (with_reducible refine (l1User_c _ _).mono ?_); rintro e w9 ⟨rfl, rfl⟩; (try rw [Dd1.out]); (try rw [Dd2.out]); (try rw [Dd3.out]))
      | ((with_reducible refine gate_dst (N := 31) rfl ?_); refine wpList_bload k4 rfl _ _ rfl 0 3 rfl _ Try.underlying24 rfl size24 (by simp) #[v1, v2, .int .i64 b.locked] rfl ?_)
      | (go_at_call 57; (with_reducible refine (l1Copy_c _ b [v1, v2, .int .i64 b.locked] (tBk_mk (h11.fr f) (h12.fr f) h13) HL.out.1 HL.out.2).mono ?_); rintro e w9 ⟨os, F, rfl, ho, hn, hb, f9⟩; have hu := ho.lt; have z9 := f9.size; replace f := f.trans f9; (try replace ho := ho.fr f9); (try (replace k4 := k4.fr f9; (try clear r_k4); have r_k4 := k4.cells)); (try (replace k8 := k8.fr f9; (try clear r_k8); have r_k8 := k8.cells)); (try (replace k10 := k10.fr f9; (try clear r_k10); have r_k10 := k10.cells)))
      | (go_at_call 62; (with_reducible refine (l1Away_c _ b os F ho hn HO.out k fr s hk2 hfr hs0 bs.2).mono ?_); rintro e w9 ⟨cs, rfl, h9, c9⟩; rw [E2.out.1] at h9; rw [E2.out.2]; have z9 := c9.size; replace f := f.own c9 (fun q hq => by have := hb q hq; omega); replace ho := h9; clear h9; replace k4 := k4.chg c9 (fun hm => by have := hb _ hm; omega); replace k8 := k8.chg c9 (fun hm => by have := hb _ hm; omega); (try clear r_k4); (try clear r_k8); have r_k8 := k8.cells)
      | ((with_reducible refine gate_dst (N := 10) rfl ?_); refine wpList_alloc rfl _ rfl _ (zero24 _) #[.slice none 0 0, .slice none 0 0, .int .i64 0] rfl ?_; intro g_k10 w9 hg_k10 k10 f9; have zf_k10 := f.size; have hl_k10 := k10.lt; have z9 := f9.size; replace f := f.trans f9; (try replace ho := ho.fr f9); (try (replace k4 := k4.fr f9; (try clear r_k4); have r_k4 := k4.cells)); (try (replace k8 := k8.fr f9; (try clear r_k8); have r_k8 := k8.cells)); (try clear r_k10); have r_k10 := k10.cells)
      | ((with_reducible refine gate_store (p := 10) rfl ?_); refine wpList_bput k10 rfl _ _ _ rfl rfl _ rfl size24 rfl (tBk.len (tBk.own_rd ho)) (tBk.one ho) ?_; intro w9 k9 c9; have z9 := c9.size; replace f := f.own c9 (fun q hq => by have := List.mem_singleton.1 hq; have := f.size; omega); (try replace ho := ho.chg c9 (fun q hq hm => by have := hb q hq; have := hu q hq; have := List.mem_singleton.1 hm; omega)); (try (replace k4 := k4.chg c9 (fun hm => by have := List.mem_singleton.1 hm; omega); (try clear r_k4); have r_k4 := k4.cells)); (try (replace k8 := k8.chg c9 (fun hm => by have := List.mem_singleton.1 hm; omega); (try clear r_k8); have r_k8 := k8.cells)); replace k10 := k9; clear k9)
      | ((with_reducible refine gate_store (p := 8) rfl ?_); refine wpList_bstore k8 rfl _ _ _ rfl 0 3 rfl (.agg #[.slice none 0 0, .slice none 0 0, .int .i64 0]) rfl #[.slice none 0 0, .slice none 0 0, .int .i64 0] rfl rfl size24 (by simp) (by intro u hu; simp at hu; rcases hu with rfl | rfl <;> rfl) #[.slice none 0 0, .slice none 0 0, .int .i64 0] rfl ?_; intro w9 k9 c9; have z9 := c9.size; replace f := f.own c9 (fun q hq => by have := List.mem_singleton.1 hq; have := f.size; omega); (try replace ho := ho.chg c9 (fun q hq hm => by have := hb q hq; have := hu q hq; have := List.mem_singleton.1 hm; omega)); (try (replace k4 := k4.chg c9 (fun hm => by have := List.mem_singleton.1 hm; omega); (try clear r_k4); have r_k4 := k4.cells)); (try (replace k10 := k10.chg c9 (fun hm => by have := List.mem_singleton.1 hm; omega); (try clear r_k10); have r_k10 := k10.cells)); replace k8 := k9; clear k9; (try clear r_k8); have r_k8 := k8.cells))
    exact bodyPost_ret (v := .tuple #[.agg #[.slice none 0 0, .slice none 0 0, .int .i64 0], .bool false]) (results_cell_row2 rfl _ _ g_k8 _ _ _ _ rfl k8.blk Try.underlying24 rfl size24 _ rfl) rfl ⟨[.slice none 0 0, .slice none 0 0, .int .i64 0], [], by rw [e.out], by rw [e.out]; exact nilBk_own _, by simp, by simp, f⟩
  · have e := Lib.hid (show awayR b k fr s = (awayBk b k fr s, true) from awayR_yes d1 hk2 hfr hs0 (by rw [hx]; exact hlt))
    have E2 := Lib.hid (show (if s ≤ at0 (lst b k) (fr.toNat - 1) then awayBk b k fr s else b) = awayBk b k fr s ∧ decide (s ≤ at0 (lst b k) (fr.toNat - 1)) = true by rw [hx, if_pos hlt]; exact ⟨rfl, decide_eq_true hlt⟩)
    have Dd1 := Lib.hid d1
    clear d1
    have Dd2 := Lib.hid d2
    clear d2
    have Dd3 := Lib.hid d3
    clear d3
    go_enter Try.func35, Try.ntmps35
    go_wp2_with (first
      | ((with_reducible refine gate_dst (N := 4) rfl ?_); refine wpList_box rfl _ _ rfl #[v1, v2, .int .i64 b.locked] rfl ?_; intro g_k4 w9 hg_k4 k4 f9; have zf_k4 := f.size; have hl_k4 := k4.lt; have z9 := f9.size; replace f := f.trans f9; (try replace ho := ho.fr f9); (try (replace k8 := k8.fr f9; (try clear r_k8); have r_k8 := k8.cells)); (try (replace k10 := k10.fr f9; (try clear r_k10); have r_k10 := k10.cells)); (try clear r_k4); have r_k4 := k4.cells)
      | ((with_reducible refine gate_dst (N := 8) rfl ?_); refine wpList_alloc rfl _ rfl _ (zero24 _) #[.slice none 0 0, .slice none 0 0, .int .i64 0] rfl ?_; intro g_k8 w9 hg_k8 k8 f9; have zf_k8 := f.size; have hl_k8 := k8.lt; have z9 := f9.size; replace f := f.trans f9; (try replace ho := ho.fr f9); (try (replace k4 := k4.fr f9; (try clear r_k4); have r_k4 := k4.cells)); (try (replace k10 := k10.fr f9; (try clear r_k10); have r_k10 := k10.cells)); (try clear r_k8); have r_k8 := k8.cells)
      | (go_at_call 24; (with_reducible refine (sBankOk_c _ b [v1, v2, .int .i64 b.locked] (tBk_mk (h11.fr f) (h12.fr f) h13)).mono ?_); rintro e w9 ⟨rfl, f9⟩; (try rw [Dd1.out]); (try rw [Dd2.out]); (try rw [Dd3.out]); have z9 := f9.size; replace f := f.trans f9; (try replace ho := ho.fr f9); (try (replace k4 := k4.fr f9; (try clear r_k4); have r_k4 := k4.cells)); (try (replace k8 := k8.fr f9; (try clear r_k8); have r_k8 := k8.cells)); (try (replace k10 := k10.fr f9; (try clear r_k10); have r_k10 := k10.cells)))
      | (go_at_call 54; (with_reducible refine (l6In_c _ _ _ _).mono ?_); rintro e w9 ⟨rfl, rfl⟩; (try rw [Dd1.out]); (try rw [Dd2.out]); (try rw [Dd3.out]))
      | (go_at_call 55; (with_reducible refine (l1User_c _ _).mono ?_); rintro e w9 ⟨rfl, rfl⟩; (try rw [Dd1.out]); (try rw [Dd2.out]); (try rw [Dd3.out]))
      | ((with_reducible refine gate_dst (N := 31) rfl ?_); refine wpList_bload k4 rfl _ _ rfl 0 3 rfl _ Try.underlying24 rfl size24 (by simp) #[v1, v2, .int .i64 b.locked] rfl ?_)
      | (go_at_call 57; (with_reducible refine (l1Copy_c _ b [v1, v2, .int .i64 b.locked] (tBk_mk (h11.fr f) (h12.fr f) h13) HL.out.1 HL.out.2).mono ?_); rintro e w9 ⟨os, F, rfl, ho, hn, hb, f9⟩; have hu := ho.lt; have z9 := f9.size; replace f := f.trans f9; (try replace ho := ho.fr f9); (try (replace k4 := k4.fr f9; (try clear r_k4); have r_k4 := k4.cells)); (try (replace k8 := k8.fr f9; (try clear r_k8); have r_k8 := k8.cells)); (try (replace k10 := k10.fr f9; (try clear r_k10); have r_k10 := k10.cells)))
      | (go_at_call 62; (with_reducible refine (l1Away_c _ b os F ho hn HO.out k fr s hk2 hfr hs0 bs.2).mono ?_); rintro e w9 ⟨cs, rfl, h9, c9⟩; rw [E2.out.1] at h9; rw [E2.out.2]; have z9 := c9.size; replace f := f.own c9 (fun q hq => by have := hb q hq; omega); replace ho := h9; clear h9; replace k4 := k4.chg c9 (fun hm => by have := hb _ hm; omega); replace k8 := k8.chg c9 (fun hm => by have := hb _ hm; omega); (try clear r_k4); (try clear r_k8); have r_k8 := k8.cells)
      | ((with_reducible refine gate_dst (N := 10) rfl ?_); refine wpList_alloc rfl _ rfl _ (zero24 _) #[.slice none 0 0, .slice none 0 0, .int .i64 0] rfl ?_; intro g_k10 w9 hg_k10 k10 f9; have zf_k10 := f.size; have hl_k10 := k10.lt; have z9 := f9.size; replace f := f.trans f9; (try replace ho := ho.fr f9); (try (replace k4 := k4.fr f9; (try clear r_k4); have r_k4 := k4.cells)); (try (replace k8 := k8.fr f9; (try clear r_k8); have r_k8 := k8.cells)); (try clear r_k10); have r_k10 := k10.cells)
      | ((with_reducible refine gate_store (p := 10) rfl ?_); refine wpList_bput k10 rfl _ _ _ rfl rfl _ rfl size24 rfl (tBk.len (tBk.own_rd ho)) (tBk.one ho) ?_; intro w9 k9 c9; have z9 := c9.size; replace f := f.own c9 (fun q hq => by have := List.mem_singleton.1 hq; have := f.size; omega); (try replace ho := ho.chg c9 (fun q hq hm => by have := hb q hq; have := hu q hq; have := List.mem_singleton.1 hm; omega)); (try (replace k4 := k4.chg c9 (fun hm => by have := List.mem_singleton.1 hm; omega); (try clear r_k4); have r_k4 := k4.cells)); (try (replace k8 := k8.chg c9 (fun hm => by have := List.mem_singleton.1 hm; omega); (try clear r_k8); have r_k8 := k8.cells)); replace k10 := k9; clear k9)
      | ((with_reducible refine gate_dst (N := 42) rfl ?_); refine wpList_bget k10 rfl _ _ rfl rfl _ Try.underlying24 rfl size24 (size_toArray (tBk.len (tBk.own_rd ho))) ?_)
      | ((with_reducible refine gate_store (p := 8) rfl ?_); refine wpList_bput k8 rfl _ _ _ rfl rfl _ rfl size24 rfl (tBk.len (tBk.own_rd ho)) (tBk.one ho) ?_; intro w9 k9 c9; have z9 := c9.size; replace f := f.own c9 (fun q hq => by have := List.mem_singleton.1 hq; have := f.size; omega); (try replace ho := ho.chg c9 (fun q hq hm => by have := hb q hq; have := hu q hq; have := List.mem_singleton.1 hm; omega)); (try (replace k4 := k4.chg c9 (fun hm => by have := List.mem_singleton.1 hm; omega); (try clear r_k4); have r_k4 := k4.cells)); (try (replace k10 := k10.chg c9 (fun hm => by have := List.mem_singleton.1 hm; omega); (try clear r_k10); have r_k10 := k10.cells)); replace k8 := k9; clear k9))
    exact bodyPost_ret (v := .tuple #[.agg cs.toArray, .bool true]) (results_cell_row2 rfl _ _ g_k8 _ _ _ _ rfl k8.blk Try.underlying24 rfl (by rw [List.size_toArray, tBk.len ho.rd]; exact size24) _ rfl) rfl ⟨cs, F, by rw [e.out], by rw [e.out]; exact ho, hn, lo_mono hb (by omega), f⟩
end Go.Proofs.Ytnpggjlhdnbgoaa
