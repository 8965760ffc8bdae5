/- Which banks are ok, and that the program's BankOk and the reference's answer just that. -/
import Derived.Test.YtapdcgjccckjeaaBank
namespace Go.Proofs.Ytapdcgjccckjeaa
set_option maxRecDepth 100000
set_option linter.unusedVariables false
set_option linter.unusedSimpArgs false
open Go.RowKit

def rng (x : Int) : Bool := decide (0 ≤ x ∧ x ≤ 30)
def okL (xs : List Int) : Bool := xs.length == 3 && xs.all rng
def okBk (b : Bk) : Bool := okL b.own && okL b.notes && decide (0 ≤ b.locked) && decide (b.own.sum + b.locked = 30) && decide (b.notes.sum ≤ 30)
theorem okL_len {xs : List Int} (h : okL xs = true) : xs.length = 3 := by
  simp only [okL, Bool.and_eq_true, beq_iff_eq] at h
  exact h.1
theorem okL_get {xs : List Int} (h : okL xs = true) (k : Nat) (hk : k < xs.length) : 0 ≤ xs[k] ∧ xs[k] ≤ 30 := by
  simp only [okL, Bool.and_eq_true, List.all_eq_true] at h
  exact of_decide_eq_true (h.2 _ (List.getElem_mem hk))
theorem sum_take_succ (xs : List Int) (k : Nat) (hk : k < xs.length) : (xs.take (k + 1)).sum = (xs.take k).sum + xs[k] := by
  rw [List.take_succ_eq_append_getElem hk, List.sum_append]
  simp
theorem sum_take_bd {xs : List Int} (h : okL xs = true) : ∀ k, k ≤ xs.length → 0 ≤ (xs.take k).sum ∧ (xs.take k).sum ≤ 30 * k
  | 0, _ => by simp
  | k + 1, hk => by
    have h1 := sum_take_bd h k (by omega)
    have h2 := okL_get h k (by omega)
    rw [sum_take_succ xs k (by omega)]
    omega
theorem sum_bd {xs : List Int} (h : okL xs = true) : 0 ≤ xs.sum ∧ xs.sum ≤ 90 := by
  have h1 := sum_take_bd h xs.length (Nat.le_refl _)
  rw [List.take_length] at h1
  have := okL_len h
  omega
theorem all_take_succ {xs : List Int} {k : Nat} (hk : k < xs.length) (h : (xs.take k).all rng = true) (hr : 0 ≤ xs[k] ∧ xs[k] ≤ 30) : (xs.take (k + 1)).all rng = true := by
  rw [List.take_succ_eq_append_getElem hk, List.all_append, h]
  simp [rng, hr]
theorem okL_bad {xs : List Int} {k : Nat} (hk : k < xs.length) (hr : ¬ (0 ≤ xs[k] ∧ xs[k] ≤ 30)) : okL xs = false := by
  cases h : okL xs with
  | false => rfl
  | true => exact absurd (okL_get h k hk) hr

/-- A call that only looks: it returns v, and the world is as it was, orders drawn apart. -/
def Look (v : Value) (w : World) : Ending → World → Prop := fun e w' => e = .returned v ∧ ∃ n, w' = w.drewN n

theorem l6In_c (w : World) (n lo hi : Int) : Calls Try.prog 61 #[.int .i64 n, .int .i64 lo, .int .i64 hi] w fun e w' => e = .returned (.bool (decide (lo ≤ n ∧ n ≤ hi))) ∧ w = w' := by
  by_cases h1 : lo ≤ n
  all_goals
    by_cases h2 : n ≤ hi
    all_goals
      go_enter Try.func61, Try.ntmps61
      go_wp2
      go_ret
      exact ⟨by simp [h1, h2], rfl⟩

set_option maxHeartbeats 400000 in
theorem l1Parts_c (w : World) (v : Value) (xs : List Int) (h1 : tInt.row w v xs) : Calls Try.prog 123 #[v] w fun e w' => e = .returned (.bool (okL xs)) ∧ w = w' := by
  obtain ⟨A1, c1, rfl⟩ := h1.val
  have hm := h1.le
  go_enter Try.func123, Try.ntmps123
  go_wp2
  go_loop [3] (fun i => ∃ k : Nat, k ≤ xs.length ∧ i = .int .i64 k ∧ (xs.take k).all rng = true) (fun i => xs.length - (intOf i).toNat)
  case atStart => exact ⟨0, Nat.zero_le _, rfl, rfl⟩
  case round =>
    obtain ⟨k, hk, rfl, ha⟩ := hrel
    have Ha := Lib.hid ha
    clear ha
    by_cases hlt : k < xs.length
    · obtain ⟨ad1, rfl, g1⟩ := row_int_at h1 k hlt
      by_cases hr : 0 ≤ xs[k] ∧ xs[k] ≤ 30
      · have hd : decide (0 ≤ xs[k] ∧ xs[k] ≤ 30) = true := decide_eq_true hr
        go_wp2_with (go_at_call 61; (with_reducible refine (l6In_c _ _ _ _).mono ?_); rintro e w9 ⟨rfl, rfl⟩; rw [hd])
        go_round
        case rel => exact ⟨k + 1, by omega, by go_num, all_take_succ hlt Ha.out hr⟩
        case measure => simp [intOf]; omega
      · have hd : decide (0 ≤ xs[k] ∧ xs[k] ≤ 30) = false := decide_eq_false hr
        have ho := Lib.hid (okL_bad hlt hr)
        go_wp2_with (go_at_call 61; (with_reducible refine (l6In_c _ _ _ _).mono ?_); rintro e w9 ⟨rfl, rfl⟩; rw [hd])
        go_ret
        exact ⟨by rw [ho.out]; rfl, rfl⟩
    · obtain rfl : k = xs.length := by omega
      go_wp2
      go_ret
      refine ⟨?_, rfl⟩
      have e1 := Ha.out
      rw [List.take_length] at e1
      have e2 : okL xs = decide ((xs.length : Int) = 3) := by
        rw [okL, e1, Bool.and_true, Bool.eq_iff_iff]
        simp
        omega
      rw [e2]
      rfl

theorem l1Parts_r (w : World) (v : Value) (xs : List Int) {r : Bool} (h1 : tInt.row w v xs) (hr : okL xs = r) : Calls Try.prog 123 #[v] w fun e w' => e = .returned (.bool r) ∧ w = w' := by
  rw [← hr]
  exact l1Parts_c w v xs h1

set_option maxHeartbeats 400000 in
theorem l1All_c (w : World) (v : Value) (xs : List Int) (h1 : tInt.row w v xs) (ho : okL xs = true) : Calls Try.prog 124 #[v] w fun e w' => e = .returned (.int .i64 xs.sum) ∧ w = w' := by
  obtain ⟨A1, c1, rfl⟩ := h1.val
  have hm := h1.le
  have Ho := Lib.hid ho
  clear ho
  go_enter Try.func124, Try.ntmps124
  go_wp2
  go_loop [3, 4] (fun s i => ∃ k : Nat, k ≤ xs.length ∧ i = .int .i64 k ∧ s = .int .i64 (xs.take k).sum) (fun _ i => xs.length - (intOf i).toNat)
  case atStart => exact ⟨0, Nat.zero_le _, rfl, rfl⟩
  case round =>
    obtain ⟨k, hk, rfl, rfl⟩ := hrel
    have hb := sum_take_bd Ho.out k hk
    have hl := Lib.hid (okL_len Ho.out)
    have hl' : xs.length ≤ 3 := by have := hl.out; omega
    by_cases hlt : k < xs.length
    · obtain ⟨ad1, rfl, g1⟩ := row_int_at h1 k hlt
      have hg := okL_get Ho.out k hlt
      have hs := Lib.hid (sum_take_succ xs k hlt)
      go_wp2
      go_round
      case rel => exact ⟨k + 1, by omega, by go_num, by rw [hs.out]⟩
      case measure => simp [intOf]; omega
    · obtain rfl : k = xs.length := by omega
      go_wp2
      go_ret
      exact ⟨ret_int (by simp), rfl⟩

/-- What amountTotal hands back. -/
def totL (xs : List Int) : Int × Bool := if okL xs = true then (xs.sum, true) else (0, false)
set_option maxHeartbeats 400000 in
theorem amountTotal_c (w : World) (v : Value) (xs : List Int) (h1 : tInt.row w v xs) : Calls Try.prog 120 #[v] w fun e w' => e = .returned (.tuple #[.int .i64 (totL xs).1, .bool (totL xs).2]) ∧ w = w' := by
  obtain ⟨A1, c1, rfl⟩ := h1.val
  have hm := h1.le
  by_cases h3 : xs.length = 3
  · have H3 := Lib.hid h3
    have hl' : xs.length ≤ 3 := by omega
    have hc : ((xs.length : Int) == 3) = true := by rw [h3]; rfl
    have hc2 : ((xs.length : Int) != 3) = false := by rw [h3]; rfl
    clear h3
    go_enter Try.func120, Try.ntmps120
    go_wp2
    go_loop [4, 12] (fun s i => ∃ k : Nat, k ≤ xs.length ∧ i = .int .i64 k ∧ s = .int .i64 (xs.take k).sum ∧ (xs.take k).all rng = true ∧ 0 ≤ (xs.take k).sum ∧ (xs.take k).sum ≤ 30 * k) (fun _ i => xs.length - (intOf i).toNat)
    case atStart => exact ⟨0, Nat.zero_le _, rfl, rfl, rfl, by simp, by simp⟩
    case round =>
      obtain ⟨k, hk, rfl, rfl, ha, hb1, hb2⟩ := hrel
      have Ha := Lib.hid ha
      clear ha
      by_cases hlt : k < xs.length
      · obtain ⟨ad1, rfl, g1⟩ := row_int_at h1 k hlt
        have hs := Lib.hid (sum_take_succ xs k hlt)
        by_cases hr : 0 ≤ xs[k] ∧ xs[k] ≤ 30
        · obtain ⟨hr1, hr2⟩ := hr
          go_wp2
          go_round
          case rel => exact ⟨k + 1, by omega, by go_num, by rw [hs.out], all_take_succ hlt Ha.out ⟨hr1, hr2⟩, by rw [hs.out]; omega, by rw [hs.out]; omega⟩
          case measure => simp [intOf]; omega
        · have ho := Lib.hid (okL_bad hlt hr)
          by_cases hr1 : xs[k] < 0
          all_goals
            go_wp2
            go_ret2
            exact ⟨by simp only [totL, ho.out]; rfl, rfl⟩
      · obtain rfl : k = xs.length := by omega
        go_wp2
        go_ret2
        have e1 := Ha.out
        rw [List.take_length] at e1
        have e2 : okL xs = true := by rw [okL, e1, H3.out]; rfl
        exact ⟨by simp only [totL, e2, if_true]; rfl, rfl⟩
  · have ho : okL xs = false := by
      cases h : okL xs with
      | false => rfl
      | true => exact absurd (okL_len h) h3
    have Ho := Lib.hid ho
    clear ho
    have hc : ((xs.length : Int) == 3) = false := by rw [beq_eq_false_iff_ne]; omega
    have hc2 : ((xs.length : Int) != 3) = true := by rw [bne_iff_ne]; omega
    clear h3
    go_enter Try.func120, Try.ntmps120
    go_wp2
    go_ret2
    exact ⟨by simp only [totL, Ho.out]; rfl, rfl⟩

theorem totL_yes {xs : List Int} (h : okL xs = true) : totL xs = (xs.sum, true) := by simp [totL, h]
theorem totL_no {xs : List Int} (h : okL xs = false) : totL xs = (0, false) := by simp [totL, h]
set_option maxHeartbeats 800000 in
theorem BankOk_c (w : World) (b : Bk) (c1 : List Value) (h1 : tBk.rd w b c1) : Calls Try.prog 67 #[.agg c1.toArray] w (Ret (.bool (okBk b)) w) := by
  obtain ⟨v1, v2, rfl, h11, h12, h13, h14⟩ := h1
  have f := Fr.refl w
  cases o1 : okL b.own with
  | false =>
    have t1 := Lib.hid (totL_no o1)
    have r1 := Lib.hid (show okBk b = false by simp [okBk, o1])
    clear o1
    go_enter Try.func67, Try.ntmps67
    go_wp2_with (first
      | ((with_reducible refine gate_dst (N := 1) rfl ?_); refine wpList_box rfl _ _ rfl #[v1, v2, .int .i64 b.locked] rfl ?_; intro g_k1 w9 hg_k1 k1 f9; have zf_k1 := f.size; have hl_k1 := k1.lt; have z9 := f9.size; replace f := f.trans f9; (try clear r_k1); have r_k1 := k1.cells)
      | (go_at_call 120; (with_reducible refine (amountTotal_c _ v1 b.own (h11.fr f)).mono ?_); rintro e w9 ⟨rfl, rfl⟩; rw [t1.out]))
    go_ret
    exact ⟨by rw [r1.out]; rfl, f⟩
  | true =>
    have t1 := Lib.hid (totL_yes o1)
    have hs := sum_bd o1
    cases o2 : okL b.notes with
    | false =>
      have t2 := Lib.hid (totL_no o2)
      have r1 := Lib.hid (show okBk b = false by simp [okBk, o2])
      clear o1 o2
      go_enter Try.func67, Try.ntmps67
      go_wp2_with (first
        | ((with_reducible refine gate_dst (N := 1) rfl ?_); refine wpList_box rfl _ _ rfl #[v1, v2, .int .i64 b.locked] rfl ?_; intro g_k1 w9 hg_k1 k1 f9; have zf_k1 := f.size; have hl_k1 := k1.lt; have z9 := f9.size; replace f := f.trans f9; (try clear r_k1); have r_k1 := k1.cells)
        | (go_at_call 120; (with_reducible refine (amountTotal_c _ v1 b.own (h11.fr f)).mono ?_); rintro e w9 ⟨rfl, rfl⟩; rw [t1.out])
        | (go_at_call 120; (with_reducible refine (amountTotal_c _ v2 b.notes (h12.fr f)).mono ?_); rintro e w9 ⟨rfl, rfl⟩; rw [t2.out]))
      go_ret
      exact ⟨by rw [r1.out]; rfl, f⟩
    | true =>
      have t2 := Lib.hid (totL_yes o2)
      have hs2 := sum_bd o2
      have r1 := Lib.hid (show okBk b = (decide (0 ≤ b.locked) && decide (b.own.sum + b.locked = 30) && decide (b.notes.sum ≤ 30)) by simp [okBk, o1, o2])
      clear o1 o2
      generalize hS : b.own.sum = S at *
      generalize hT : b.notes.sum = T at *
      have HS := Lib.hid hS
      have HT := Lib.hid hT
      clear hS hT
      obtain ⟨hs0, hs1⟩ := hs
      by_cases e1 : 0 ≤ b.locked
      all_goals
        by_cases e2 : b.locked = 30 - S
        all_goals
          have e2b : (b.locked == 30 - S) = decide (b.locked = 30 - S) := rfl
          by_cases e3 : T ≤ 30
          all_goals
            simp only [e2, decide_true, decide_false] at e2b
            have E2 := Lib.hid e2
            clear e2
            go_enter Try.func67, Try.ntmps67
            go_wp2_with (first
              | ((with_reducible refine gate_dst (N := 1) rfl ?_); refine wpList_box rfl _ _ rfl #[v1, v2, .int .i64 b.locked] rfl ?_; intro g_k1 w9 hg_k1 k1 f9; have zf_k1 := f.size; have hl_k1 := k1.lt; have z9 := f9.size; replace f := f.trans f9; (try clear r_k1); have r_k1 := k1.cells)
              | (go_at_call 120; (with_reducible refine (amountTotal_c _ v1 b.own (h11.fr f)).mono ?_); rintro e w9 ⟨rfl, rfl⟩; rw [t1.out])
              | (go_at_call 120; (with_reducible refine (amountTotal_c _ v2 b.notes (h12.fr f)).mono ?_); rintro e w9 ⟨rfl, rfl⟩; rw [t2.out]))
            go_ret
            have e2 := E2.out
            refine ⟨ret_bool ?_, f⟩
            rw [r1.out, Bool.eq_iff_iff]
            simp
            omega

set_option maxHeartbeats 800000 in
theorem sBankOk_c (w : World) (b : Bk) (c1 : List Value) (h1 : tBk.rd w b c1) : Calls Try.prog 87 #[.agg c1.toArray] w (Ret (.bool (okBk b)) w) := by
  obtain ⟨v1, v2, rfl, h11, h12, h13, h14⟩ := h1
  have f := Fr.refl w
  have hr : ∀ r1 r2 p1 p2 p3 : Bool, okL b.own = r1 → okL b.notes = r2 → (r1 = true → r2 = true → decide (0 ≤ b.locked) = p1) → (r1 = true → r2 = true → p1 = true → (IntKind.i64.wrap (b.own.sum + b.locked) == 30) = p2) → (r1 = true → r2 = true → decide (b.notes.sum ≤ 30) = p3) →
      okBk b = (r1 && r2 && p1 && p2 && p3) := by
    intro r1 r2 p1 p2 p3 e1 e2 e3 e4 e5
    cases r1 with
    | false => simp [okBk, e1]
    | true =>
      cases r2 with
      | false => simp [okBk, e2]
      | true =>
        have hs := sum_bd e1
        rw [← e5 rfl rfl, okBk, e1, e2]
        have e3' := e3 rfl rfl
        cases p1 with
        | false => rw [e3']; rfl
        | true =>
          rw [e3', ← e4 rfl rfl rfl]
          have h0 : 0 ≤ b.locked := of_decide_eq_true e3'
          congr 2
          rw [Bool.eq_iff_iff]
          simp [IntKind.wrap, IntKind.bits, IntKind.signed]
          omega
  cases o1 : okL b.own with
  | false =>
    have e := Lib.hid (show okBk b = false by simp [okBk, o1])
    clear hr
    go_enter Try.func87, Try.ntmps87
    go_wp2_with ((with_reducible refine gate_dst (N := 1) rfl ?_); refine wpList_box rfl _ _ rfl #[v1, v2, .int .i64 b.locked] rfl ?_; intro g_k1 w9 hg_k1 k1 f9; have zf_k1 := f.size; have hl_k1 := k1.lt; have z9 := f9.size; replace f := f.trans f9; (try clear r_k1); have r_k1 := k1.cells)
    go_quiet ((go_at_call 123; with_reducible exact quiet_eq (l1Parts_r _ v1 b.own (h11.fr (f.drewN _)) o1)))
    go_wp2
    go_ret
    exact ⟨ret_bool (by rw [e.out]), f.drewN _⟩
  | true =>
    cases o2 : okL b.notes with
    | false =>
      have e := Lib.hid (show okBk b = false by simp [okBk, o2])
      clear hr
      go_enter Try.func87, Try.ntmps87
      go_wp2_with ((with_reducible refine gate_dst (N := 1) rfl ?_); refine wpList_box rfl _ _ rfl #[v1, v2, .int .i64 b.locked] rfl ?_; intro g_k1 w9 hg_k1 k1 f9; have zf_k1 := f.size; have hl_k1 := k1.lt; have z9 := f9.size; replace f := f.trans f9; (try clear r_k1); have r_k1 := k1.cells)
      go_quiet ((first | (go_at_call 123; with_reducible exact quiet_eq (l1Parts_r _ v1 b.own (h11.fr (f.drewN _)) o1)) | (go_at_call 123; with_reducible exact quiet_eq (l1Parts_r _ v2 b.notes (h12.fr (f.drewN _)) o2))))
      go_wp2
      go_ret
      exact ⟨ret_bool (by rw [e.out]), f.drewN _⟩
    | true =>
      by_cases p1 : 0 ≤ b.locked
      · cases p2 : (IntKind.i64.wrap (b.own.sum + b.locked) == 30) with
        | false =>
          have e := Lib.hid (show okBk b = false by rw [hr true true true false _ o1 o2 (fun _ _ => decide_eq_true p1) (fun _ _ _ => p2) (fun _ _ => rfl)]; rfl)
          clear hr
          go_enter Try.func87, Try.ntmps87
          go_wp2_with ((with_reducible refine gate_dst (N := 1) rfl ?_); refine wpList_box rfl _ _ rfl #[v1, v2, .int .i64 b.locked] rfl ?_; intro g_k1 w9 hg_k1 k1 f9; have zf_k1 := f.size; have hl_k1 := k1.lt; have z9 := f9.size; replace f := f.trans f9; (try clear r_k1); have r_k1 := k1.cells)
          go_quiet ((first | (go_at_call 123; with_reducible exact quiet_eq (l1Parts_r _ v1 b.own (h11.fr (f.drewN _)) o1)) | (go_at_call 123; with_reducible exact quiet_eq (l1Parts_r _ v2 b.notes (h12.fr (f.drewN _)) o2)) | (go_at_call 124; with_reducible exact quiet_eq (l1All_c _ v1 b.own (h11.fr (f.drewN _)) o1)) | (go_at_call 124; with_reducible exact quiet_eq (l1All_c _ v2 b.notes (h12.fr (f.drewN _)) o2))))
          go_wp2
          go_ret
          exact ⟨ret_bool (by rw [e.out]), f.drewN _⟩
        | true =>
          have e := Lib.hid (show okBk b = decide (b.notes.sum ≤ 30) by rw [hr true true true true _ o1 o2 (fun _ _ => decide_eq_true p1) (fun _ _ _ => p2) (fun _ _ => rfl)]; rfl)
          clear hr
          go_enter Try.func87, Try.ntmps87
          go_wp2_with ((with_reducible refine gate_dst (N := 1) rfl ?_); refine wpList_box rfl _ _ rfl #[v1, v2, .int .i64 b.locked] rfl ?_; intro g_k1 w9 hg_k1 k1 f9; have zf_k1 := f.size; have hl_k1 := k1.lt; have z9 := f9.size; replace f := f.trans f9; (try clear r_k1); have r_k1 := k1.cells)
          go_quiet ((first | (go_at_call 123; with_reducible exact quiet_eq (l1Parts_r _ v1 b.own (h11.fr (f.drewN _)) o1)) | (go_at_call 123; with_reducible exact quiet_eq (l1Parts_r _ v2 b.notes (h12.fr (f.drewN _)) o2)) | (go_at_call 124; with_reducible exact quiet_eq (l1All_c _ v1 b.own (h11.fr (f.drewN _)) o1)) | (go_at_call 124; with_reducible exact quiet_eq (l1All_c _ v2 b.notes (h12.fr (f.drewN _)) o2))))
          go_wp2
          go_ret
          exact ⟨ret_bool (by rw [e.out]), f.drewN _⟩
      · have e := Lib.hid (show okBk b = false by simp [okBk, p1])
        have p1' : decide (0 ≤ b.locked) = false := decide_eq_false p1
        clear hr
        go_enter Try.func87, Try.ntmps87
        go_wp2_with ((with_reducible refine gate_dst (N := 1) rfl ?_); refine wpList_box rfl _ _ rfl #[v1, v2, .int .i64 b.locked] rfl ?_; intro g_k1 w9 hg_k1 k1 f9; have zf_k1 := f.size; have hl_k1 := k1.lt; have z9 := f9.size; replace f := f.trans f9; (try clear r_k1); have r_k1 := k1.cells)
        go_quiet ((first | (go_at_call 123; with_reducible exact quiet_eq (l1Parts_r _ v1 b.own (h11.fr (f.drewN _)) o1)) | (go_at_call 123; with_reducible exact quiet_eq (l1Parts_r _ v2 b.notes (h12.fr (f.drewN _)) o2)) | (go_at_call 124; with_reducible exact quiet_eq (l1All_c _ v1 b.own (h11.fr (f.drewN _)) o1)) | (go_at_call 124; with_reducible exact quiet_eq (l1All_c _ v2 b.notes (h12.fr (f.drewN _)) o2))))
        go_wp2
        go_ret
        exact ⟨ret_bool (by rw [e.out]), f.drewN _⟩
end Go.Proofs.Ytapdcgjccckjeaa
