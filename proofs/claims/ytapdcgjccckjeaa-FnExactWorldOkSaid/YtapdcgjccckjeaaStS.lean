/- Slices of states: what the laws' helpers for them come to. -/
import Derived.Test.YtapdcgjccckjeaaStHelp
import Derived.Test.YtapdcgjccckjeaaOwn3
namespace Go.Proofs.Ytapdcgjccckjeaa
set_option maxRecDepth 100000
set_option linter.unusedVariables false
set_option linter.unusedSimpArgs false
open Go.RowKit
def cntStS : List St → Nat
  | [] => 0
  | s :: ss => cntSt s + cntStS ss
def cntMStS : List St → Nat
  | [] => 0
  | s :: ss => 3 + cntMSt s + cntMStS ss
theorem cntStS_append : ∀ (a b : List St), cntStS (a ++ b) = cntStS a + cntStS b
  | [], b => by simp [cntStS]
  | s :: a, b => by simp [cntStS, cntStS_append a b]; omega
theorem cntMStS_append : ∀ (a b : List St), cntMStS (a ++ b) = cntMStS a + cntMStS b
  | [], b => by simp [cntMStS]
  | s :: a, b => by simp [cntMStS, cntMStS_append a b]; omega
theorem cntStS_take (xs : List St) (k : Nat) (h : k < xs.length) : cntStS (xs.take (k + 1)) = cntStS (xs.take k) + cntSt xs[k] := by
  rw [List.take_succ_eq_append_getElem h, cntStS_append]
  simp [cntStS]
theorem cntMStS_take (xs : List St) (k : Nat) (h : k < xs.length) : cntMStS (xs.take (k + 1)) = cntMStS (xs.take k) + (3 + cntMSt xs[k]) := by
  rw [List.take_succ_eq_append_getElem h, cntMStS_append]
  simp [cntMStS]
theorem cntStS_le (xs : List St) (k : Nat) : cntStS (xs.take k) ≤ cntStS xs := by
  conv => rhs; rw [← List.take_append_drop k xs, cntStS_append]
  omega
theorem cntMStS_le (xs : List St) (k : Nat) : cntMStS (xs.take k) ≤ cntMStS xs := by
  conv => rhs; rw [← List.take_append_drop k xs, cntMStS_append]
  omega
theorem cntMSt_le {s : St} : cntMSt s ≤ 7 * cntSt s := by
  unfold cntSt cntMSt
  omega
theorem cntMStS_bd : ∀ (xs : List St), cntMStS xs ≤ 3 * xs.length + 7 * cntStS xs
  | [] => by simp [cntMStS]
  | s :: ss => by
    have := cntMStS_bd ss
    have := cntMSt_le (s := s)
    simp only [cntMStS, cntStS, List.length_cons]
    omega
theorem cntStS_get (xs : List St) (k : Nat) (h : k < xs.length) : cntSt xs[k] ≤ cntStS xs := by
  have h1 := cntStS_take xs k h
  have h2 := cntStS_le xs (k + 1)
  omega
/-- The marks of an element: its numbers, then its slices. -/
def markS1 (q : Int) (s : St) : St := { markSt (q + 3) s with way := q, vsn := q + 1, want := q + 2 }
def marksS : Int → List St → List St
  | _, [] => []
  | q, s :: ss => markS1 q s :: marksS (q + (3 + cntMSt s : Nat)) ss
theorem marksS_len : ∀ (q : Int) (xs : List St), (marksS q xs).length = xs.length
  | _, [] => rfl
  | q, s :: ss => by simp [marksS, marksS_len _ ss]
theorem marksS_append : ∀ (q : Int) (a b : List St), marksS q (a ++ b) = marksS q a ++ marksS (q + cntMStS a) b
  | q, [], b => by simp [marksS, cntMStS]
  | q, s :: a, b => by
    simp only [List.cons_append, marksS, marksS_append _ a b, cntMStS]
    congr 3
    omega
theorem marksS_take (q : Int) (xs : List St) (k : Nat) (h : k < xs.length) : marksS q (xs.take (k + 1)) = marksS q (xs.take k) ++ [markS1 (q + cntMStS (xs.take k)) xs[k]] := by
  rw [List.take_succ_eq_append_getElem h, marksS_append]
  simp [marksS]
theorem marksS_get (q : Int) (xs : List St) (k : Nat) (h : k < xs.length) : (marksS q xs)[k]'(by rw [marksS_len]; exact h) = markS1 (q + cntMStS (xs.take k)) xs[k] := by
  have e : marksS q xs = marksS q (xs.take k) ++ (markS1 (q + cntMStS (xs.take k)) xs[k] :: marksS (q + cntMStS (xs.take k) + (3 + cntMSt xs[k] : Nat)) (xs.drop (k + 1))) := by
    conv => lhs; rw [← List.take_append_drop k xs, marksS_append, List.drop_eq_getElem_cons h]
    rfl
  simp only [e]
  rw [List.getElem_append_right (by rw [marksS_len]; simp; omega)]
  have : k - (marksS q (List.take k xs)).length = 0 := by rw [marksS_len]; simp; omega
  simp [this]
set_option maxRecDepth 100000 in
set_option maxHeartbeats 1600000 in
theorem eqStateS_c (w : World) (v u : Value) (xs : List St) (h1 : tSt.row w v xs) (h2 : tSt.row w u xs) : Calls Try.prog 71 #[v, u] w (Ret (.bool true) w) := by
  obtain ⟨A1, c1, rfl⟩ := h1.val
  obtain ⟨A2, c2, rfl⟩ := h2.val
  have hm := h1.le
  have S := Sep.start w
  go_enter Try.func71, Try.ntmps71
  go_wp2
  go_loopw [5] (fun i wr => ∃ k : Nat, k ≤ xs.length ∧ i = .int .i64 k ∧ Sep [] w [] wr) (fun i _ => xs.length - (intOf i).toNat)
  case atStart => exact ⟨0, Nat.zero_le _, rfl, S⟩
  case round =>
    clear S
    obtain ⟨k, hk, rfl, S⟩ := hrel
    by_cases hlt : k < xs.length
    · obtain ⟨ad1, cs1, rfl, r1, g1⟩ := cellsAt_of_row h1 k hlt
      obtain ⟨ad2, cs2, rfl, r2, g2⟩ := cellsAt_of_row h2 k hlt
      have G1 := Lib.hid (fun (W : World) (f : Fr w W) => g1.fr f)
      have G2 := Lib.hid (fun (W : World) (f : Fr w W) => g2.fr f)
      have R1 := Lib.hid (fun (W : World) (f : Fr w W) => tSt.fr f r1)
      have R2 := Lib.hid (fun (W : World) (f : Fr w W) => tSt.fr f r2)
      have N1 := Lib.hid (tSt.len r1)
      have N2 := Lib.hid (tSt.len r2)
      clear g1 g2 r1 r2
      have p0 : (0 : Int) ≤ (k : Int) := Int.natCast_nonneg _
      have p1 : (k : Int) < (xs.length : Int) := by omega
      go_wp2
      have S0 := S
      refine wp_region_noPanic ?_
      refine wp_region_held_drew (S := Sep _ _ _) (by kernel_rfl) S0.drew (fun _ => ?_)
      replace S := S.drew
      clear S0
      refine tk 0 ?_
      (try simp only [Act.put, List.setIfInBounds_toArray, List.set_cons_zero, List.set_cons_succ])
      refine tk 1 ?_
      (try simp only [Act.put, List.setIfInBounds_toArray, List.set_cons_zero, List.set_cons_succ])
      refine tk 2 ?_
      (try simp only [Act.put, List.setIfInBounds_toArray, List.set_cons_zero, List.set_cons_succ])
      refine tk 3 ?_ (hy := by exact yRw (fun w' h => G1.out _ h.frame) (hn := N1.out))
      (try simp only [Act.put, List.setIfInBounds_toArray, List.set_cons_zero, List.set_cons_succ])
      refine tk 4 ?_
      (try simp only [Act.put, List.setIfInBounds_toArray, List.set_cons_zero, List.set_cons_succ])
      refine tk 5 ?_
      (try simp only [Act.put, List.setIfInBounds_toArray, List.set_cons_zero, List.set_cons_succ])
      refine tk 6 ?_
      (try simp only [Act.put, List.setIfInBounds_toArray, List.set_cons_zero, List.set_cons_succ])
      refine tk 7 ?_ (hy := by exact yRw (fun w' h => G2.out _ h.frame) (hn := N2.out))
      (try simp only [Act.put, List.setIfInBounds_toArray, List.set_cons_zero, List.set_cons_succ])
      refine rdy1 8 (fun K hK => ?_)
      go_simp; (skip; go_at_call 43; (with_reducible refine (eqState_c _ xs[k] _ _ (R1.out _ S.frame) (R2.out _ S.frame)).mono ?_); rintro e w9 ⟨rfl, f9⟩; replace S := S.fr f9; clear f9)
      (first | refine hK.out _ _ (S.sub subA) (fun _ => ?_) | (go_wp2_with fail; refine hK.out _ _ (S.sub subA) (fun _ => ?_)))
      clear hK K
      (try simp only [Act.put, List.setIfInBounds_toArray, List.set_cons_zero, List.set_cons_succ])
      refine tk 9 ?_
      (try simp only [Act.put, List.setIfInBounds_toArray, List.set_cons_zero, List.set_cons_succ])
      refine wpAnyH_done (by kernel_rfl) ?_ _
      refine NoPanic.normal ?_
      go_wp2
      go_roundw
      case rel => exact ⟨k + 1, by omega, by go_num, S⟩
      case measure => simp [intOf]; omega
    · go_wp2
      go_ret
      exact ⟨rfl, S.frame⟩
set_option maxRecDepth 100000 in
set_option maxHeartbeats 1600000 in
theorem szStateS_c (w : World) (v : Value) (xs : List St) (left : Int) (h1 : tSt.row w v xs) (hl0 : 0 ≤ left) (hl1 : left ≤ 1048576) :
    Calls Try.prog 85 #[v, .int .i64 left] w (Ret (.int .i64 (szr left (xs.length + cntStS xs))) w) := by
  obtain ⟨A1, c1, rfl⟩ := h1.val
  have hm := h1.le
  have S := Sep.start w
  by_cases e0 : (xs.length : Int) ≤ left
  case neg =>
    have e : szr left (xs.length + cntStS xs) = -1 := szr_no (by omega)
    rw [e]
    clear e
    go_enter Try.func85, Try.ntmps85
    go_wp2
    go_ret
    exact ⟨rfl, S.frame⟩
  have pw : IntKind.i64.wrap (left - (xs.length : Int)) = left - (xs.length : Int) := IntWalk.i64_in _ (by omega)
  have t0 : decide (left - (xs.length : Int) < 0) = false := decide_eq_false (by omega)
  go_enter Try.func85, Try.ntmps85
  go_wp2
  go_loopw [1, 5] (fun l i wr => ∃ k : Nat, k ≤ xs.length ∧ i = .int .i64 k ∧ l = .int .i64 (left - xs.length - cntStS (xs.take k)) ∧ (xs.length + cntStS (xs.take k) : Int) ≤ left ∧ Sep [] w [] wr) (fun _ i _ => xs.length - (intOf i).toNat)
  case atStart => exact ⟨0, Nat.zero_le _, rfl, by simp [cntStS], by simpa [cntStS] using e0, S⟩
  case round =>
    clear S pw t0
    obtain ⟨k, hk, rfl, rfl, hle, S⟩ := hrel
    by_cases hlt : k < xs.length
    · obtain ⟨ad1, cs1, rfl, r1, g1⟩ := cellsAt_of_row h1 k hlt
      have N1 := Lib.hid (tSt.len r1)
      have TK := Lib.hid (cntStS_take xs k hlt)
      have LE := Lib.hid (cntStS_le xs (k + 1))
      have p0 : (0 : Int) ≤ (k : Int) := Int.natCast_nonneg _
      have p1 : (k : Int) < (xs.length : Int) := by omega
      have G1 := Lib.hid (fun (W : World) (f : Fr w W) => g1.fr f)
      have R1 := Lib.hid (fun (W : World) (f : Fr w W) => tSt.fr f r1)
      clear g1 r1
      by_cases e1 : (cntSt xs[k] : Int) ≤ left - xs.length - cntStS (xs.take k)
      · have s1 := Lib.hid (szr_yes e1)
        have t1 : decide (left - (xs.length : Int) - (cntStS (xs.take k) : Int) - (cntSt xs[k] : Int) < 0) = false := decide_eq_false (by omega)
        go_wp2_with (first
          | ((with_reducible refine gate_dst (N := 21) rfl ?_); refine aRw (G1.out _ S.frame) ?_ (hn := N1.out))
          | (go_at_call 50; (with_reducible refine (szState_c _ xs[k] _ (left - (xs.length : Int) - (cntStS (xs.take k) : Int)) (R1.out _ S.frame) (by omega) (by omega)).mono ?_); rintro e w9 ⟨rfl, f9⟩; rw [s1.out]; replace S := S.fr f9; clear f9))
        go_roundw
        case rel => exact ⟨k + 1, by omega, by go_num, by rw [TK.out]; congr 1; omega, by rw [TK.out]; omega, S⟩
        case measure => simp [intOf]; omega
      · have s1 := Lib.hid (szr_no e1)
        have e : szr left (xs.length + cntStS xs) = -1 := szr_no (by have := TK.out; have := LE.out; omega)
        have E := Lib.hid e
        clear e
        go_wp2_with (first
          | ((with_reducible refine gate_dst (N := 21) rfl ?_); refine aRw (G1.out _ S.frame) ?_ (hn := N1.out))
          | (go_at_call 50; (with_reducible refine (szState_c _ xs[k] _ (left - (xs.length : Int) - (cntStS (xs.take k) : Int)) (R1.out _ S.frame) (by omega) (by omega)).mono ?_); rintro e w9 ⟨rfl, f9⟩; rw [s1.out]; replace S := S.fr f9; clear f9))
        go_ret
        exact ⟨ret_int E.out.symm, S.frame⟩
    · obtain rfl : k = xs.length := by omega
      rw [List.take_length] at hle ⊢
      have e : szr left (xs.length + cntStS xs) = left - xs.length - cntStS xs := by rw [szr_yes (by omega)]; omega
      have E := Lib.hid e
      clear e
      go_wp2
      go_ret
      exact ⟨ret_int E.out.symm, S.frame⟩
def zStS : St := ⟨0, 0, 0, [], [], [], []⟩
theorem zStS_own (w : World) : tSt.own w zStS [.int .i64 0, .int .i64 0, .int .i64 0, .slice none 0 0, .slice none 0 0, .slice none 0 0, .slice none 0 0] [] :=
  ⟨.slice none 0 0, .slice none 0 0, .slice none 0 0, .slice none 0 0, [], [], [], [], rfl, rfl, Ty.orow.nil _ _ _, Ty.orow.nil _ _ _, Ty.orow.nil _ _ _, Ty.orow.nil _ _ _, by unfold I64; simp [zStS]⟩
theorem take_rep {α : Type} (xs : List α) (z : α) (k : Nat) (h : k < xs.length) : xs.take k ++ List.replicate (xs.length - k) z = xs.take k ++ z :: List.replicate (xs.length - (k + 1)) z := by
  rw [show xs.length - k = (xs.length - (k + 1)) + 1 from by omega, List.replicate_succ]
theorem take_rep1 {α : Type} (xs : List α) (z : α) (k : Nat) (h : k < xs.length) : xs.take k ++ xs[k] :: List.replicate (xs.length - (k + 1)) z = xs.take (k + 1) ++ List.replicate (xs.length - (k + 1)) z := by
  rw [List.take_succ_eq_append_getElem h, List.append_assoc]
  rfl
set_option maxHeartbeats 1600000 in
theorem toStateS_c (w : World) (v : Value) (xs : List St) (h1 : tSt.row w v xs) (hm : xs.length ≤ 1048576) (hc : cntStS xs ≤ 1048576) : Calls Try.prog 90 #[v] w (RetRow tSt 30 xs w) := by
  obtain ⟨A1, c1, rfl⟩ := h1.val
  have S := Sep.start w
  go_enter Try.func90, Try.ntmps90
  go_wp2_with (first
    | ((with_reducible refine gate_dst (N := 7) rfl ?_); refine aMk (d := tSt) zStS S zStS_own (Nat.le_trans hm (by decide)) ?_; clear S; intro g7 w9 z9 S))
  go_loopw [4] (fun i wr => ∃ (k : Nat) (F : List Nat), k ≤ xs.length ∧ i = .int .i64 k ∧ Sep [] w [aRow tSt 30 (xs.take k ++ List.replicate (xs.length - k) zStS) (.slice (some ⟨g7, 0, none⟩) xs.length xs.length) F] wr) (fun i _ => xs.length - (intOf i).toNat)
  case atStart => exact ⟨0, _, Nat.zero_le _, rfl, by simpa using S⟩
  case round =>
    clear S
    obtain ⟨k, F, hk, rfl, S⟩ := hrel
    by_cases hlt : k < xs.length
    · obtain ⟨ad1, cs1, rfl, r1, g1⟩ := cellsAt_of_row h1 k hlt
      have N1 := Lib.hid (tSt.len r1)
      have G1 := Lib.hid (fun (W : World) (f : Fr w W) => g1.fr f)
      have R1 := Lib.hid (fun (W : World) (f : Fr w W) => tSt.fr f r1)
      have CN := Lib.hid (Nat.le_trans (cntStS_get xs k hlt) hc)
      have T0 := Lib.hid (show (xs.take k).length = k by simp; omega)
      have TR := Lib.hid (take_rep1 xs zStS k hlt)
      rw [take_rep xs zStS k hlt] at S
      clear g1 r1
      have p0 : (0 : Int) ≤ (k : Int) := Int.natCast_nonneg _
      have p1 : (k : Int) < (xs.length : Int) := by omega
      go_wp2_with (first
        | ((with_reducible refine gate_dst (N := 19) rfl ?_); refine aRw (G1.out _ S.frame) ?_ (hn := N1.out))
        | (go_at_call 52; (with_reducible refine (toState_c _ xs[k] _ (R1.out _ S.frame) CN.out).mono ?_); rintro e w9 ⟨cs9, F9, rfl, h9, n9, b9, f9⟩; replace S := S.new (aOwn tSt _ cs9 F9) h9 n9 b9 f9; clear h9 n9 b9 f9)
        | ((with_reducible refine gate_st rfl ?_); refine aEl S delA delA T0.out ?_; clear S; intro F9 w9 S))
      rw [TR.out] at S
      go_roundw
      case rel => exact ⟨k + 1, _, by omega, by go_num, S⟩
      case measure => simp [intOf]; omega
    · obtain rfl : k = xs.length := by omega
      rw [List.take_length, Nat.sub_self, List.replicate_zero, List.append_nil] at S
      go_wp2
      go_ret
      exact S.retRow List.mem_cons_self
end Go.Proofs.Ytapdcgjccckjeaa
