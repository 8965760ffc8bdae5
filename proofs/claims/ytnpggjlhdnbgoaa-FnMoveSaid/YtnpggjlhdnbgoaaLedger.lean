/- Maps of amounts: what the program's amountMap and amountList come to. -/
import Derived.Test.YtnpggjlhdnbgoaaBankMove
import Derived.Test.YtnpggjlhdnbgoaaMapI
namespace Go.Proofs.Ytnpggjlhdnbgoaa
set_option linter.unusedVariables false
set_option linter.unusedSimpArgs false
open Go.RowKit
def RetMap (xs : List Int) (w : World) : Ending → World → Prop := fun e w' => ∃ g, e = .returned (.map (some g)) ∧ MapI w' g xs ∧ w.heap.size ≤ g ∧ Fr w w'
set_option maxHeartbeats 1600000 in
theorem amountMap_c (w : World) (v : Value) (xs : List Int) (h : tInt.row w v xs) (hl : xs.length = 3) : Calls Try.prog 66 #[v] w (RetMap xs w) := by
  obtain ⟨A, c, rfl⟩ : ∃ A c, v = .slice A 3 c := by obtain ⟨A, c, h'⟩ := h.val; exact ⟨A, c, by rw [h', hl]⟩
  have HL := Lib.hid hl
  have hmm : ∀ W : World, (Instr.makeMap 68 (some (.int .i64 3))).run Try.prog W = .ok (.map (some W.heap.size)) (W.alloc (.map #[] 0)) := fun _ => by kernel_rfl
  go_enter Try.func66, Try.ntmps66
  go_wp2
  go_loopw [4, 5, 9] (fun _ _ i wr => ∃ k : Nat, k ≤ 3 ∧ i = .int .i64 k ∧ wr.heap[w.heap.size]? = some (.map (ents 0 (xs.take k)).toArray k) ∧ Fr w wr) (fun _ _ i _ => 3 - (intOf i).toNat)
  case atStart => exact ⟨0, by omega, rfl, heap_alloc_new w _, (Fr.refl w).alloc _⟩
  case round =>
    obtain ⟨k, hk, rfl, hb, f⟩ := hrel
    by_cases hlt : k < 3
    · have hlk := Lib.hid (show k < xs.length by omega)
      obtain ⟨ad, rfl, hc⟩ := row_int_at h k hlk.out
      have hc' := f.cell hc
      have p1 : (k : Int) < 3 := by omega
      have htl : (xs.take k).length = k := by rw [List.length_take]; have := hlk.out; omega
      have HT := Lib.hid htl
      clear htl hc hl
      go_wp2_with ((with_reducible refine gate_map rfl ?_); refine wpList_mappush rfl _ _ _ rfl Try.underlying68 Try.underlying3 rfl k hb HT.out.symm _ _ rfl rfl (by rw [HT.out]; omega) ?_; intro w9 hb9 c9; have f9 := f.own c9 (fun q hq => by rw [List.mem_singleton.1 hq]; exact Nat.le_refl _))
      go_roundw
      case rel => exact ⟨k + 1, by omega, by go_num, by rw [List.take_succ_eq_append_getElem hlk.out]; exact hb9, f9⟩
      case measure => simp [intOf]; omega
    · obtain rfl : k = 3 := by omega
      go_wp2
      go_ret
      exact ⟨_, rfl, ⟨3, by rw [List.take_of_length_le (by have := HL.out; omega)] at hb; exact hb⟩, Nat.le_refl _, f⟩
theorem step_list (xs : List Int) (k : Nat) (h : k < xs.length) (hl : xs.length = 3) : (xs.take k ++ List.replicate (3 - k) 0).set k xs[k] = xs.take (k + 1) ++ List.replicate (3 - (k + 1)) 0 := by
  match xs, hl with
  | [a, b, c], _ => rcases (by simp at h; omega : k = 0 ∨ k = 1 ∨ k = 2) with rfl | rfl | rfl <;> rfl
theorem lsize3 : (Try.prog.info? 3).map (·.size) = some 1 := by kernel_rfl
set_option maxHeartbeats 1600000 in
theorem amountList_c (w : World) (g : Nat) (xs : List Int) (h : MapI w g xs) (hl : xs.length = 3) : Calls Try.prog 67 #[.map (some g)] w (RetRow tInt 3 xs w) := by
  have hmk : ∀ W : World, (Instr.makeSlice 22 (.int .i64 3) (.int .i64 3)).run Try.prog W = .ok (.slice (some ⟨W.heap.size, 0, none⟩) 3 3) (W.alloc (.cells #[.int .i64 0, .int .i64 0, .int .i64 0] 3)) := fun _ => by kernel_rfl
  have HL := Lib.hid hl
  go_enter Try.func67, Try.ntmps67
  go_wp2
  go_loopw [4, 8] (fun _ i wr => ∃ k : Nat, k ≤ 3 ∧ i = .int .i64 k ∧ tInt.orow 3 wr (.slice (some ⟨w.heap.size, 0, none⟩) 3 3) (xs.take k ++ List.replicate (3 - k) 0) [w.heap.size] ∧ Fr w wr) (fun _ i _ => 3 - (intOf i).toNat)
  case atStart => exact ⟨0, by omega, rfl, orow_of_heap (xs := [0, 0, 0]) rfl (by decide) (heap_alloc_new w _), (Fr.refl w).alloc _⟩
  case round =>
    obtain ⟨k, hk, rfl, ho, f⟩ := hrel
    by_cases hlt : k < 3
    · have hlk := Lib.hid (show k < xs.length by omega)
      have hm := h.fr f
      have p1 : (k : Int) < 3 := by omega
      have hk2 := Lib.hid (show k < (xs.take k ++ List.replicate (3 - k) 0).length by simp; omega)
      have hst := Lib.hid (step_list xs k hlk.out hl)
      clear hl
      go_wp2_with (first
        | ((with_reducible refine gate_dst (N := 16) rfl ?_); refine wpList_look rfl _ _ rfl Try.underlying68 Try.underlying3 rfl hm k hlk.out _ rfl (by omega) ?_)
        | ((with_reducible refine gate_store (p := 17) rfl ?_); refine wpList_ostore ho (i := k) hk2.out rfl _ _ _ rfl rfl xs[k] rfl lsize3 ?_; intro w9 ho9 c9; replace ho9 := Eq.mp (congrArg (fun l => tInt.orow _ w9 _ l _) hst.out) ho9; have f9 := f.own c9 (fun q hq => by rw [List.mem_singleton.1 hq]; exact Nat.le_refl _)))
      go_roundw
      case rel => exact ⟨k + 1, by omega, by go_num, ho9, f9⟩
      case measure => simp [intOf]; omega
    · obtain rfl : k = 3 := by omega
      go_wp2
      go_ret
      exact ⟨_, [w.heap.size], rfl, by rw [List.take_of_length_le (by have := HL.out; omega), show 3 - 3 = 0 from rfl, List.replicate_zero, List.append_nil] at ho; exact ho, by simp, by simp, f⟩

theorem ownCoins_c (w : World) (a b c : Value) : Calls Try.prog 64 #[.agg #[a, b, c]] w (Ret a w) := by
  have f := Fr.refl w
  go_enter Try.func64, Try.ntmps64
  go_wp2_with (((with_reducible refine gate_dst (N := 1) rfl ?_); refine wpList_box rfl _ _ rfl #[a, b, c] rfl ?_; intro g_k1 w9 hg_k1 k1 f9; have zf_k1 := f.size; have hl_k1 := k1.lt; have z9 := f9.size; replace f := f.trans f9; (try clear r_k1); have r_k1 := k1.cells))
  go_ret
  exact ⟨rfl, f⟩
theorem noteCoins_c (w : World) (a b c : Value) : Calls Try.prog 65 #[.agg #[a, b, c]] w (Ret b w) := by
  have f := Fr.refl w
  go_enter Try.func65, Try.ntmps65
  go_wp2_with (((with_reducible refine gate_dst (N := 1) rfl ?_); refine wpList_box rfl _ _ rfl #[a, b, c] rfl ?_; intro g_k1 w9 hg_k1 k1 f9; have zf_k1 := f.size; have hl_k1 := k1.lt; have z9 := f9.size; replace f := f.trans f9; (try clear r_k1); have r_k1 := k1.cells))
  go_ret
  exact ⟨rfl, f⟩
/-- Which coins. -/
def coinsV (k : Int) : Value := if k = 1 then .tuple #[.func (.func 64) #[] #[], .bool true] else if k = 2 then .tuple #[.func (.func 65) #[] #[], .bool true] else .tuple #[.nilFunc, .bool false]
theorem coinsOf_c (w : World) (k : Int) : Calls Try.prog 58 #[.int .i64 k] w fun e w' => e = .returned (coinsV k) ∧ w = w' := by
  by_cases h1 : k = 1
  · subst h1
    go_enter Try.func58, Try.ntmps58
    go_wp2
    go_ret2
    exact ⟨rfl, rfl⟩
  · by_cases h2 : k = 2
    · subst h2
      go_enter Try.func58, Try.ntmps58
      go_wp2
      go_ret2
      exact ⟨rfl, rfl⟩
    · have k1 : (k == 1) = false := by simp [h1]
      have k2 : (k == 2) = false := by simp [h2]
      go_enter Try.func58, Try.ntmps58
      go_wp2
      go_ret2
      exact ⟨by simp [coinsV, h1, h2], rfl⟩
end Go.Proofs.Ytnpggjlhdnbgoaa
