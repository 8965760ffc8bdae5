/- Banks as data, and what the laws' helpers for them come to. -/
import Derived.Test.YtapdcgjccckjeaaProg
import Derived.Test.YtapdcgjccckjeaaBase
import Derived.Test.YtapdcgjccckjeaaInts
import Derived.Test.YtapdcgjccckjeaaNum
namespace Go.Proofs.Ytapdcgjccckjeaa
set_option maxRecDepth 100000
set_option linter.unusedVariables false
set_option linter.unusedSimpArgs false
open Go.RowKit

structure Bk where
  own : List Int
  notes : List Int
  locked : Int
def tBk : Ty Bk where
  sz := 3
  rd := fun w b cs => ∃ v1 v2, cs = [v1, v2, .int .i64 b.locked] ∧ tInt.row w v1 b.own ∧ tInt.row w v2 b.notes ∧ I64 b.locked
  own := fun w b cs F => ∃ v1 v2 F1 F2, cs = [v1, v2, .int .i64 b.locked] ∧ F = F1 ++ F2 ∧ tInt.orow 3 w v1 b.own F1 ∧ tInt.orow 3 w v2 b.notes F2 ∧ I64 b.locked
  len := by rintro w x cs ⟨v1, v2, rfl, _⟩; rfl
  fr := by rintro w w' x cs f ⟨v1, v2, rfl, h1, h2, h3⟩; exact ⟨v1, v2, rfl, h1.fr f, h2.fr f, h3⟩
  own_rd := by rintro w x cs F ⟨v1, v2, F1, F2, rfl, rfl, h1, h2, h3⟩; exact ⟨v1, v2, rfl, h1.row, h2.row, h3⟩
  own_lt := by
    rintro w x cs F ⟨v1, v2, F1, F2, rfl, rfl, h1, h2, h3⟩ g hg
    rcases List.mem_append.1 hg with hg | hg
    · exact h1.lt g hg
    · exact h2.lt g hg
  keep := by rintro w w' x cs F ⟨v1, v2, F1, F2, rfl, rfl, h1, h2, h3⟩ hk; exact ⟨v1, v2, F1, F2, rfl, rfl, h1.keep (fun g hg => hk g (List.mem_append_left _ hg)), h2.keep (fun g hg => hk g (List.mem_append_right _ hg)), h3⟩
  one := by
    rintro w x cs F ⟨v1, v2, F1, F2, rfl, rfl, h1, h2, h3⟩ u hu
    simp only [List.mem_cons, List.not_mem_nil, or_false] at hu
    rcases hu with rfl | rfl | rfl
    · exact h1.one
    · exact h2.one
    · rfl

theorem tBk_mk {w : World} {b : Bk} {v1 v2 : Value} (h1 : tInt.row w v1 b.own) (h2 : tInt.row w v2 b.notes) (h3 : I64 b.locked) : tBk.rd w b [v1, v2, .int .i64 b.locked] := ⟨v1, v2, rfl, h1, h2, h3⟩
set_option maxHeartbeats 400000 in
theorem eqBank_c (w : World) (b : Bk) (c1 c2 : List Value) (h1 : tBk.rd w b c1) (h2 : tBk.rd w b c2) :
    Calls Try.prog 70 #[.agg c1.toArray, .agg c2.toArray] w (Ret (.bool true) w) := by
  obtain ⟨v1, v2, rfl, h11, h12, h13⟩ := h1
  obtain ⟨u1, u2, rfl, h21, h22, _⟩ := h2
  have f := Fr.refl w
  go_enter Try.func70, Try.ntmps70
  go_wp2_with (first
    | ((with_reducible refine gate_dst (N := 2) rfl ?_); refine wpList_box rfl _ _ rfl #[v1, v2, .int .i64 b.locked] rfl ?_; intro g_k1 w9 hg_k1 k1 f9; have zf_k1 := f.size; have hl_k1 := k1.lt; have z9 := f9.size; replace f := f.trans f9; (try replace h11 := h11.fr f9); (try replace h12 := h12.fr f9); (try replace h21 := h21.fr f9); (try replace h22 := h22.fr f9); (try (replace k2 := k2.fr f9; (try clear r_k2); have r_k2 := k2.cells)); (try clear r_k1); have r_k1 := k1.cells)
    | ((with_reducible refine gate_dst (N := 3) rfl ?_); refine wpList_box rfl _ _ rfl #[u1, u2, .int .i64 b.locked] rfl ?_; intro g_k2 w9 hg_k2 k2 f9; have zf_k2 := f.size; have hl_k2 := k2.lt; have z9 := f9.size; replace f := f.trans f9; (try replace h11 := h11.fr f9); (try replace h12 := h12.fr f9); (try replace h21 := h21.fr f9); (try replace h22 := h22.fr f9); (try (replace k1 := k1.fr f9; (try clear r_k1); have r_k1 := k1.cells)); (try clear r_k2); have r_k2 := k2.cells)
    | (go_at_call 72; (with_reducible refine (eqIntS_c _ _ _ _ (by assumption) (by assumption)).mono ?_); rintro e w9 ⟨rfl, f9⟩; have z9 := f9.size; replace f := f.trans f9; (try replace h11 := h11.fr f9); (try replace h12 := h12.fr f9); (try replace h21 := h21.fr f9); (try replace h22 := h22.fr f9); (try (replace k1 := k1.fr f9; (try clear r_k1); have r_k1 := k1.cells)); (try (replace k2 := k2.fr f9; (try clear r_k2); have r_k2 := k2.cells))))
  go_ret
  exact ⟨rfl, f⟩

def cntBk (b : Bk) : Nat := b.own.length + b.notes.length
def markBk (q : Int) (b : Bk) : Bk := { own := marksI q b.own.length, notes := marksI (q + b.own.length) b.notes.length, locked := b.locked }

set_option maxHeartbeats 400000 in
theorem heldBank_c (w : World) (b : Bk) (c1 : List Value) (q : Int) (h1 : tBk.rd w (markBk q b) c1) (hb : b.own.length ≤ 2097152 ∧ b.notes.length ≤ 2097152) (hq0 : 0 ≤ q) (hq1 : q ≤ 100000000000000000) :
    Calls Try.prog 76 #[.agg c1.toArray, .int .i64 q] w (Ret (.int .i64 (q + cntBk b)) w) := by
  obtain ⟨v1, v2, rfl, h11, h12, h13⟩ := h1
  have f := Fr.refl w
  obtain ⟨hb1, hb2⟩ := hb
  go_enter Try.func76, Try.ntmps76
  go_wp2_with (first
    | ((with_reducible refine gate_dst (N := 2) rfl ?_); refine wpList_box rfl _ _ rfl #[v1, v2, .int .i64 b.locked] rfl ?_; intro g_k1 w9 hg_k1 k1 f9; have zf_k1 := f.size; have hl_k1 := k1.lt; have z9 := f9.size; replace f := f.trans f9; (try replace h11 := h11.fr f9); (try replace h12 := h12.fr f9); (try clear r_k1); have r_k1 := k1.cells)
    | (go_at_call 78; (with_reducible refine (heldIntS_c _ _ b.own.length _ h11 hb1 (by omega) (by omega)).mono ?_); rintro e w9 ⟨rfl, f9⟩; have z9 := f9.size; replace f := f.trans f9; (try replace h11 := h11.fr f9); (try replace h12 := h12.fr f9); (try (replace k1 := k1.fr f9; (try clear r_k1); have r_k1 := k1.cells)))
    | (go_at_call 78; (with_reducible refine (heldIntS_c _ _ b.notes.length _ h12 hb2 (by omega) (by omega)).mono ?_); rintro e w9 ⟨rfl, f9⟩; have z9 := f9.size; replace f := f.trans f9; (try replace h11 := h11.fr f9); (try replace h12 := h12.fr f9); (try (replace k1 := k1.fr f9; (try clear r_k1); have r_k1 := k1.cells))))
  go_ret
  exact ⟨ret_int (by unfold cntBk; omega), f⟩

set_option maxHeartbeats 400000 in
theorem szBank_c (w : World) (b : Bk) (c1 : List Value) (left : Int) (h1 : tBk.rd w b c1) (hl0 : 0 ≤ left) (hl1 : left ≤ 1048576) :
    Calls Try.prog 84 #[.agg c1.toArray, .int .i64 left] w (Ret (.int .i64 (szr left (cntBk b))) w) := by
  obtain ⟨v1, v2, rfl, h11, h12, h13⟩ := h1
  have f := Fr.refl w
  by_cases e1 : (b.own.length : Int) ≤ left
  · have s1 : szr left b.own.length = left - b.own.length := if_pos e1
    have S1 := Lib.hid s1
    clear s1
    by_cases e2 : (b.notes.length : Int) ≤ left - b.own.length
    all_goals
      go_enter Try.func84, Try.ntmps84
      go_wp2_with (first
        | ((with_reducible refine gate_dst (N := 2) rfl ?_); refine wpList_box rfl _ _ rfl #[v1, v2, .int .i64 b.locked] rfl ?_; intro g_k1 w9 hg_k1 k1 f9; have zf_k1 := f.size; have hl_k1 := k1.lt; have z9 := f9.size; replace f := f.trans f9; (try replace h11 := h11.fr f9); (try replace h12 := h12.fr f9); (try clear r_k1); have r_k1 := k1.cells)
        | (go_at_call 86; (with_reducible refine (szIntS_c _ _ b.own left h11 hl0 hl1).mono ?_); rintro e w9 ⟨rfl, f9⟩; have z9 := f9.size; replace f := f.trans f9; (try replace h11 := h11.fr f9); (try replace h12 := h12.fr f9); (try (replace k1 := k1.fr f9; (try clear r_k1); have r_k1 := k1.cells))); rw [S1.out]
        | (go_at_call 86; (with_reducible refine (szIntS_c _ _ b.notes (left - b.own.length) h12 (by omega) (by omega)).mono ?_); rintro e w9 ⟨rfl, f9⟩; have z9 := f9.size; replace f := f.trans f9; (try replace h11 := h11.fr f9); (try replace h12 := h12.fr f9); (try (replace k1 := k1.fr f9; (try clear r_k1); have r_k1 := k1.cells))); simp only [szr, e2, if_true, if_false])
      go_ret
      exact ⟨ret_int (by unfold szr cntBk; split <;> omega), f⟩
  · have s1 : szr left b.own.length = -1 := if_neg e1
    have S1 := Lib.hid s1
    clear s1
    go_enter Try.func84, Try.ntmps84
    go_wp2_with (first
      | ((with_reducible refine gate_dst (N := 2) rfl ?_); refine wpList_box rfl _ _ rfl #[v1, v2, .int .i64 b.locked] rfl ?_; intro g_k1 w9 hg_k1 k1 f9; have zf_k1 := f.size; have hl_k1 := k1.lt; have z9 := f9.size; replace f := f.trans f9; (try replace h11 := h11.fr f9); (try replace h12 := h12.fr f9); (try clear r_k1); have r_k1 := k1.cells)
      | (go_at_call 86; (with_reducible refine (szIntS_c _ _ b.own left h11 hl0 hl1).mono ?_); rintro e w9 ⟨rfl, f9⟩; have z9 := f9.size; replace f := f.trans f9; (try replace h11 := h11.fr f9); (try replace h12 := h12.fr f9); (try (replace k1 := k1.fr f9; (try clear r_k1); have r_k1 := k1.cells))); rw [S1.out])
    go_ret
    exact ⟨ret_int (by unfold szr cntBk; split <;> omega), f⟩

theorem zero26 (w : World) : (zeroValue 26).run Try.prog w = .ok (.agg #[.slice none 0 0, .slice none 0 0, .int .i64 0]) w := by kernel_rfl
theorem size26 : (Try.prog.info? 26).map (·.size) = some 3 := by kernel_rfl
theorem size24 : (Try.prog.info? 24).map (·.size) = some 1 := by kernel_rfl
theorem size3 : (Try.prog.info? 3).map (·.size) = some 1 := by kernel_rfl
set_option maxHeartbeats 800000 in
theorem toBank_c (w : World) (b : Bk) (c1 : List Value) (h1 : tBk.rd w b c1) (hb : b.own.length ≤ 1048576 ∧ b.notes.length ≤ 1048576) :
    Calls Try.prog 89 #[.agg c1.toArray] w (RetOwn tBk b w) := by
  obtain ⟨v1, v2, rfl, h11, h12, h13⟩ := h1
  obtain ⟨hm1, hm2⟩ := hb
  have f := Fr.refl w
  go_enter Try.func89, Try.ntmps89
  go_wp2_with (first
    | ((with_reducible refine gate_dst (N := 1) rfl ?_); refine wpList_box rfl _ _ rfl #[v1, v2, .int .i64 b.locked] rfl ?_; intro g_k1 w9 hg_k1 k1 f9; have zf_k1 := f.size; have hl_k1 := k1.lt; have z9 := f9.size; replace f := f.trans f9; (try replace ho1 := ho1.fr f9); (try replace ho2 := ho2.fr f9); (try (replace k2 := k2.fr f9; (try clear r_k2); have r_k2 := k2.cells)); (try (replace k3 := k3.fr f9; (try clear r_k3); have r_k3 := k3.cells)); (try clear r_k1); have r_k1 := k1.cells)
    | ((with_reducible refine gate_dst (N := 2) rfl ?_); refine wpList_alloc rfl _ rfl _ (zero26 _) #[.slice none 0 0, .slice none 0 0, .int .i64 0] rfl ?_; intro g_k2 w9 hg_k2 k2 f9; have zf_k2 := f.size; have hl_k2 := k2.lt; have z9 := f9.size; replace f := f.trans f9; (try replace ho1 := ho1.fr f9); (try replace ho2 := ho2.fr f9); (try (replace k1 := k1.fr f9; (try clear r_k1); have r_k1 := k1.cells)); (try (replace k3 := k3.fr f9; (try clear r_k3); have r_k3 := k3.cells)); (try clear r_k2); have r_k2 := k2.cells)
    | ((with_reducible refine gate_dst (N := 3) rfl ?_); refine wpList_alloc rfl _ rfl _ (zero26 _) #[.slice none 0 0, .slice none 0 0, .int .i64 0] rfl ?_; intro g_k3 w9 hg_k3 k3 f9; have zf_k3 := f.size; have hl_k3 := k3.lt; have z9 := f9.size; replace f := f.trans f9; (try replace ho1 := ho1.fr f9); (try replace ho2 := ho2.fr f9); (try (replace k1 := k1.fr f9; (try clear r_k1); have r_k1 := k1.cells)); (try (replace k2 := k2.fr f9; (try clear r_k2); have r_k2 := k2.cells)); (try clear r_k3); have r_k3 := k3.cells)
    | (go_at_call 91; (with_reducible refine (toIntS_c _ v1 b.own (h11.fr f) hm1).mono ?_); rintro e w9 ⟨o1, F1, rfl, ho1, hn1, hb1, f9⟩; have hu1 := ho1.lt; have z9 := f9.size; replace f := f.trans f9; (try replace ho1 := ho1.fr f9); (try replace ho2 := ho2.fr f9); (try (replace k1 := k1.fr f9; (try clear r_k1); have r_k1 := k1.cells)); (try (replace k2 := k2.fr f9; (try clear r_k2); have r_k2 := k2.cells)); (try (replace k3 := k3.fr f9; (try clear r_k3); have r_k3 := k3.cells)))
    | (go_at_call 91; (with_reducible refine (toIntS_c _ v2 b.notes (h12.fr f) hm2).mono ?_); rintro e w9 ⟨o2, F2, rfl, ho2, hn2, hb2, f9⟩; have hu2 := ho2.lt; have z9 := f9.size; replace f := f.trans f9; (try replace ho1 := ho1.fr f9); (try replace ho2 := ho2.fr f9); (try (replace k1 := k1.fr f9; (try clear r_k1); have r_k1 := k1.cells)); (try (replace k2 := k2.fr f9; (try clear r_k2); have r_k2 := k2.cells)); (try (replace k3 := k3.fr f9; (try clear r_k3); have r_k3 := k3.cells)))
    | ((with_reducible refine gate_store (p := 7) rfl ?_); refine wpList_bstore1 k3 rfl _ _ _ rfl 0 rfl (o1) rfl (ho1.one) size24 (by simp) #[o1, .slice none 0 0, .int .i64 0] rfl ?_; intro w9 k9 c9; have z9 := c9.size; replace f := f.own c9 (fun q hq => by have := List.mem_singleton.1 hq; have := f.size; omega); (try replace ho1 := ho1.chg c9 (fun q hq hm => by have := hb1 q hq; have := hu1 q hq; have := List.mem_singleton.1 hm; omega)); (try replace ho2 := ho2.chg c9 (fun q hq hm => by have := hb2 q hq; have := hu2 q hq; have := List.mem_singleton.1 hm; omega)); (try (replace k1 := k1.chg c9 (fun hm => by have := List.mem_singleton.1 hm; omega); (try clear r_k1); have r_k1 := k1.cells)); (try (replace k2 := k2.chg c9 (fun hm => by have := List.mem_singleton.1 hm; omega); (try clear r_k2); have r_k2 := k2.cells)); replace k3 := k9; clear k9; (try clear r_k3); have r_k3 := k3.cells)
    | ((with_reducible refine gate_store (p := 11) rfl ?_); refine wpList_bstore1 k3 rfl _ _ _ rfl 1 rfl (o2) rfl (ho2.one) size24 (by simp) #[o1, o2, .int .i64 0] rfl ?_; intro w9 k9 c9; have z9 := c9.size; replace f := f.own c9 (fun q hq => by have := List.mem_singleton.1 hq; have := f.size; omega); (try replace ho1 := ho1.chg c9 (fun q hq hm => by have := hb1 q hq; have := hu1 q hq; have := List.mem_singleton.1 hm; omega)); (try replace ho2 := ho2.chg c9 (fun q hq hm => by have := hb2 q hq; have := hu2 q hq; have := List.mem_singleton.1 hm; omega)); (try (replace k1 := k1.chg c9 (fun hm => by have := List.mem_singleton.1 hm; omega); (try clear r_k1); have r_k1 := k1.cells)); (try (replace k2 := k2.chg c9 (fun hm => by have := List.mem_singleton.1 hm; omega); (try clear r_k2); have r_k2 := k2.cells)); replace k3 := k9; clear k9; (try clear r_k3); have r_k3 := k3.cells)
    | ((with_reducible refine gate_store (p := 14) rfl ?_); refine wpList_bstore1 k3 rfl _ _ _ rfl 2 rfl (.int .i64 b.locked) rfl (rfl) size3 (by simp) #[o1, o2, .int .i64 b.locked] rfl ?_; intro w9 k9 c9; have z9 := c9.size; replace f := f.own c9 (fun q hq => by have := List.mem_singleton.1 hq; have := f.size; omega); (try replace ho1 := ho1.chg c9 (fun q hq hm => by have := hb1 q hq; have := hu1 q hq; have := List.mem_singleton.1 hm; omega)); (try replace ho2 := ho2.chg c9 (fun q hq hm => by have := hb2 q hq; have := hu2 q hq; have := List.mem_singleton.1 hm; omega)); (try (replace k1 := k1.chg c9 (fun hm => by have := List.mem_singleton.1 hm; omega); (try clear r_k1); have r_k1 := k1.cells)); (try (replace k2 := k2.chg c9 (fun hm => by have := List.mem_singleton.1 hm; omega); (try clear r_k2); have r_k2 := k2.cells)); replace k3 := k9; clear k9; (try clear r_k3); have r_k3 := k3.cells)
    | ((with_reducible refine gate_dst (N := 15) rfl ?_); refine wpList_bload k3 rfl _ _ rfl 0 3 rfl _ Try.underlying26 rfl size26 (by simp) #[o1, o2, .int .i64 b.locked] rfl ?_)
    | ((with_reducible refine gate_store (p := 2) rfl ?_); refine wpList_bstore k2 rfl _ _ _ rfl 0 3 rfl (.agg #[o1, o2, .int .i64 b.locked]) rfl #[o1, o2, .int .i64 b.locked] rfl rfl size26 (by simp) (by intro u hu; simp at hu; rcases hu with rfl | rfl | rfl; exact ho1.one; exact ho2.one; rfl) #[o1, o2, .int .i64 b.locked] rfl ?_; intro w9 k9 c9; have z9 := c9.size; replace f := f.own c9 (fun q hq => by have := List.mem_singleton.1 hq; have := f.size; omega); (try replace ho1 := ho1.chg c9 (fun q hq hm => by have := hb1 q hq; have := hu1 q hq; have := List.mem_singleton.1 hm; omega)); (try replace ho2 := ho2.chg c9 (fun q hq hm => by have := hb2 q hq; have := hu2 q hq; have := List.mem_singleton.1 hm; omega)); (try (replace k1 := k1.chg c9 (fun hm => by have := List.mem_singleton.1 hm; omega); (try clear r_k1); have r_k1 := k1.cells)); (try (replace k3 := k3.chg c9 (fun hm => by have := List.mem_singleton.1 hm; omega); (try clear r_k3); have r_k3 := k3.cells)); replace k2 := k9; clear k9; (try clear r_k2); have r_k2 := k2.cells))
  exact bodyPost_ret (v := .agg #[o1, o2, .int .i64 b.locked]) (results_cell_row rfl _ _ g_k2 _ _ _ _ rfl k2.blk Try.underlying26 rfl size26) rfl
    ⟨[o1, o2, .int .i64 b.locked], F1 ++ F2, rfl, ⟨o1, o2, F1, F2, rfl, rfl, ho1, ho2, h13⟩, nodup_lt hn1 hn2 hu1 (by omega) hb2, lo_append (lo_mono hb1 (by omega)) (lo_mono hb2 (Nat.le_refl _)) (by omega), f⟩

set_option maxHeartbeats 800000 in
theorem markBank_c (w : World) (b : Bk) (cs : List Value) (F : List Nat) (q : Int) (h1 : tBk.own w b cs F) (hn : F.Nodup) (hq0 : 0 ≤ q) (hq1 : q ≤ 100000000000000000) :
    Calls Try.prog 73 #[.agg cs.toArray, .int .i64 q] w (RetMk tBk (q + cntBk b) (markBk q b) cs F w) := by
  obtain ⟨v1, v2, F1, F2, rfl, rfl, h11, h12, h13⟩ := h1
  have hm1 := h11.le
  have hm2 := h12.le
  obtain ⟨hn1, hn2, hn3⟩ := List.nodup_append.1 hn
  have hu1 := h11.lt
  have hu2 := h12.lt
  have Hd := Lib.hid hn3
  clear hn3
  have c : Chg (F1 ++ F2) w w := Chg.refl _ _
  go_enter Try.func73, Try.ntmps73
  go_wp2_with (first
    | ((with_reducible refine gate_dst (N := 2) rfl ?_); refine wpList_box rfl _ _ rfl #[v1, v2, .int .i64 b.locked] rfl ?_; intro g_k1 w9 hg_k1 k1 f9; have z9 := f9.size; replace h11 := h11.fr f9; replace h12 := h12.fr f9; replace c := c.fr f9; have r_k1 := k1.cells)
    | (go_at_call 75; (with_reducible refine (markIntS_c _ v1 b.own F1 _ h11 (by omega) (by omega)).mono ?_); rintro e w9 ⟨rfl, hm11, c9⟩; have z9 := c9.size; replace h12 := h12.chg c9 (fun x hx hy => Hd.out _ hy _ hx rfl); clear h11; clear r_k1; replace k1 := k1.chg c9 (fun hy => by have := hu1 _ hy; omega); have r_k1 := k1.cells; replace c := c.trans c9 (fun x hx => .inl (List.mem_append_left _ hx)))
    | (go_at_call 75; (with_reducible refine (markIntS_c _ v2 b.notes F2 _ h12 (by omega) (by omega)).mono ?_); rintro e w9 ⟨rfl, hm12, c9⟩; have z9 := c9.size; replace hm11 := hm11.chg c9 (fun x hx hy => Hd.out _ hx _ hy rfl); replace c := c.trans c9 (fun x hx => .inl (List.mem_append_right _ hx))))
  go_ret
  exact ⟨ret_int (by unfold cntBk; omega), ⟨v1, v2, F1, F2, rfl, rfl, hm11, hm12, h13⟩, c⟩
end Go.Proofs.Ytapdcgjccckjeaa
