/- Which chains are ok, and that the program's ChainOk and the reference's answer just that. -/
import Derived.Test.YtapdcgjccckjeaaCh
import Derived.Test.YtapdcgjccckjeaaStSetD
import Derived.Test.YtapdcgjccckjeaaBankOk
namespace Go.Proofs.Ytapdcgjccckjeaa
set_option maxRecDepth 100000
set_option linter.unusedVariables false
set_option linter.unusedSimpArgs false
open Go.RowKit
def prevK (ks : List Int) (k : Nat) : Int := if k = 0 then 0 else ks.getD (k - 1) 0
def kAt (ks : List Int) (k : Nat) : Bool := decide (prevK ks k < ks.getD k 0) && decide (ks.getD k 0 ≤ 90)
def knOk (ks : List Int) : Bool := (List.range ks.length).all (kAt ks)
def okCh (c : Ch) : Bool := decide (1 ≤ c.id ∧ c.id ≤ 2) && (okBk c.bank && (okSt c.st && (decide (c.past.length ≤ 90) && (c.past.all okSt && knOk c.knows))))
theorem knOk_bad {ks : List Int} {k : Nat} (hk : k < ks.length) (h : kAt ks k = false) : knOk ks = false := by
  cases e : knOk ks with
  | false => rfl
  | true =>
    have := List.all_eq_true.1 e k (List.mem_range.2 hk)
    rw [h] at this
    cases this
theorem kAt_eq {ks : List Int} {k : Nat} (hk : k < ks.length) : kAt ks k = (decide (prevK ks k < ks[k]) && decide (ks[k] ≤ 90)) := by
  unfold kAt
  simp [hk]
theorem prevK_succ {ks : List Int} {k : Nat} (hk : k < ks.length) : prevK ks (k + 1) = ks[k] := by
  unfold prevK
  simp [hk]
theorem prevK_pos {ks : List Int} : ∀ {k : Nat}, k ≤ ks.length → (List.range k).all (kAt ks) = true → 0 ≤ prevK ks k
  | 0, _, _ => by simp [prevK]
  | k + 1, hk, h => by
    have h1 : (List.range k).all (kAt ks) = true := by
      rw [List.range_succ, List.all_append, Bool.and_eq_true] at h
      exact h.1
    have h2 : kAt ks k = true := by
      rw [List.range_succ, List.all_append, Bool.and_eq_true] at h
      simpa using h.2
    have h3 := prevK_pos (Nat.le_of_succ_le hk) h1
    rw [prevK_succ (by omega)]
    rw [kAt_eq (by omega), Bool.and_eq_true, decide_eq_true_eq] at h2
    omega
theorem past_bad {ss : List St} {k : Nat} (hk : k < ss.length) (h : okSt ss[k] = false) : ss.all okSt = false := by
  cases e : ss.all okSt with
  | false => rfl
  | true =>
    have := List.all_eq_true.1 e _ (List.getElem_mem hk)
    rw [h] at this
    cases this
theorem past_succ {ss : List St} {k : Nat} (hk : k < ss.length) (h : (ss.take k).all okSt = true) (hr : okSt ss[k] = true) : (ss.take (k + 1)).all okSt = true := by
  rw [List.take_succ_eq_append_getElem hk, List.all_append, h]
  simp [hr]
theorem tSt_rd_one {w : World} {s : St} {cs : List Value} (h : tSt.rd w s cs) : ∀ u ∈ cs, u.oneCell' = true := by
  obtain ⟨v1, v2, v3, v4, rfl, h1, h2, h3, h4, _⟩ := h
  obtain ⟨A1, c1, rfl⟩ := h1.val
  obtain ⟨A2, c2, rfl⟩ := h2.val
  obtain ⟨A3, c3, rfl⟩ := h3.val
  obtain ⟨A4, c4, rfl⟩ := h4.val
  intro u hu
  simp only [List.mem_cons, List.not_mem_nil, or_false] at hu
  rcases hu with rfl | rfl | rfl | rfl | rfl | rfl | rfl <;> rfl
theorem BankOk_r (w : World) (b : Bk) (c1 : List Value) (h1 : tBk.rd w b c1) {r : Bool} (h : okBk b = r) : Calls Try.prog 67 #[.agg c1.toArray] w (Ret (.bool r) w) := h ▸ BankOk_c w b c1 h1
theorem sBankOk_r (w : World) (b : Bk) (c1 : List Value) (h1 : tBk.rd w b c1) {r : Bool} (h : okBk b = r) : Calls Try.prog 87 #[.agg c1.toArray] w (Ret (.bool r) w) := h ▸ sBankOk_c w b c1 h1
set_option maxHeartbeats 6400000 in
theorem ChainOk_c (w : World) (c : Ch) (c1 : List Value) (h1 : tCh.rd w c c1) : Calls Try.prog 19 #[.agg c1.toArray] w (Ret (.bool (okCh c)) w) := by
  obtain ⟨i, b, s, ps, ks⟩ := c
  obtain ⟨b1, b2, s1, s2, s3, s4, v1, v2, rfl, h11, h12, h13, h14, h15⟩ := h1
  dsimp only at h11 h12 h13 h14 h15 ⊢
  obtain ⟨A1, n1, rfl⟩ := h13.val
  obtain ⟨A2, n2, rfl⟩ := h14.val
  have hp := h13.le
  have hk := h14.le
  clear h15
  have S := Sep.start w
  by_cases hi : i = 1 ∨ i = 2
  case neg =>
    have R := Lib.hid (show okCh ⟨i, b, s, ps, ks⟩ = false by unfold okCh; rw [decide_eq_false (by dsimp only; omega)]; rfl)
    have d1 : (i != 1) = true := by simp; omega
    have d2 : (i != 2) = true := by simp; omega
    clear hi
    go_enter Try.func19, Try.ntmps19
    go_wp2_with (first | ((with_reducible refine gate_box rfl ?_); refine aBx S ?_; clear S; intro g9 w9 z9 S) | ((with_reducible refine gate_alloc rfl ?_); refine aAl S ?_; clear S; intro g9 w9 z9 S) | ((with_reducible refine gate_load rfl ?_); first | refine aLd S ?_ | refine aPt S ?_ | refine aL1 S ?_) | ((with_reducible refine gate_st rfl ?_); (first | refine aS1 S ?_ | refine aSt S ?_ | refine aSp S ?_); clear S; intro w9 S))
    go_ret
    exact ⟨ret_bool R.out.symm, S.frame⟩
  have HI := Lib.hid (show decide (1 ≤ i ∧ i ≤ 2) = true by simp; omega)
  cases o1 : okBk b with
  | false =>
    have R := Lib.hid (show okCh ⟨i, b, s, ps, ks⟩ = false by unfold okCh; dsimp only; rw [o1, Bool.false_and, Bool.and_false])
    have O1 := Lib.hid o1
    clear o1
    rcases hi with rfl | rfl
    all_goals
      go_enter Try.func19, Try.ntmps19
      go_wp2_with (first
        | (go_at_call 67; (with_reducible refine (BankOk_r _ b _ (tBk.fr S.frame h11) O1.out).mono ?_); rintro e w9 ⟨rfl, f9⟩; replace S := S.fr f9; clear f9)
        | ((with_reducible refine gate_box rfl ?_); refine aBx S ?_; clear S; intro g9 w9 z9 S) | ((with_reducible refine gate_alloc rfl ?_); refine aAl S ?_; clear S; intro g9 w9 z9 S) | ((with_reducible refine gate_load rfl ?_); first | refine aLd S ?_ | refine aPt S ?_ | refine aL1 S ?_) | ((with_reducible refine gate_st rfl ?_); (first | refine aS1 S ?_ | refine aSt S ?_ | refine aSp S ?_); clear S; intro w9 S))
      go_ret
      exact ⟨ret_bool R.out.symm, S.frame⟩
  | true =>
  have O1 := Lib.hid o1
  cases o2 : okSt s with
  | false =>
    have R := Lib.hid (show okCh ⟨i, b, s, ps, ks⟩ = false by unfold okCh; dsimp only; rw [o2, Bool.false_and, Bool.and_false, Bool.and_false])
    have O2 := Lib.hid o2
    clear o1 o2
    rcases hi with rfl | rfl
    all_goals
      go_enter Try.func19, Try.ntmps19
      go_wp2_with (first
        | (go_at_call 67; (with_reducible refine (BankOk_r _ b _ (tBk.fr S.frame h11) O1.out).mono ?_); rintro e w9 ⟨rfl, f9⟩; replace S := S.fr f9; clear f9)
        | (go_at_call 68; (with_reducible refine (StateOk_r _ s _ (tSt.fr S.frame h12) O2.out).mono ?_); rintro e w9 ⟨rfl, f9⟩; replace S := S.fr f9; clear f9)
        | ((with_reducible refine gate_box rfl ?_); refine aBx S ?_; clear S; intro g9 w9 z9 S) | ((with_reducible refine gate_alloc rfl ?_); refine aAl S ?_; clear S; intro g9 w9 z9 S) | ((with_reducible refine gate_load rfl ?_); first | refine aLd S ?_ | refine aPt S ?_ | refine aL1 S ?_) | ((with_reducible refine gate_st rfl ?_); (first | refine aS1 S ?_ | refine aSt S ?_ | refine aSp S ?_); clear S; intro w9 S))
      go_ret
      exact ⟨ret_bool R.out.symm, S.frame⟩
  | true =>
  have O2 := Lib.hid o2
  by_cases hp9 : ps.length ≤ 90
  case neg =>
    have R := Lib.hid (show okCh ⟨i, b, s, ps, ks⟩ = false by unfold okCh; dsimp only; rw [decide_eq_false hp9, Bool.false_and, Bool.and_false, Bool.and_false, Bool.and_false])
    have d1 : decide (90 < (ps.length : Int)) = true := decide_eq_true (by omega)
    clear o1 o2
    rcases hi with rfl | rfl
    all_goals
      go_enter Try.func19, Try.ntmps19
      go_wp2_with (first
        | (go_at_call 67; (with_reducible refine (BankOk_r _ b _ (tBk.fr S.frame h11) O1.out).mono ?_); rintro e w9 ⟨rfl, f9⟩; replace S := S.fr f9; clear f9)
        | (go_at_call 68; (with_reducible refine (StateOk_r _ s _ (tSt.fr S.frame h12) O2.out).mono ?_); rintro e w9 ⟨rfl, f9⟩; replace S := S.fr f9; clear f9)
        | ((with_reducible refine gate_box rfl ?_); refine aBx S ?_; clear S; intro g9 w9 z9 S) | ((with_reducible refine gate_alloc rfl ?_); refine aAl S ?_; clear S; intro g9 w9 z9 S) | ((with_reducible refine gate_load rfl ?_); first | refine aLd S ?_ | refine aPt S ?_ | refine aL1 S ?_) | ((with_reducible refine gate_st rfl ?_); (first | refine aS1 S ?_ | refine aSt S ?_ | refine aSp S ?_); clear S; intro w9 S))
      go_ret
      exact ⟨ret_bool R.out.symm, S.frame⟩
  have R0 := Lib.hid (show okCh ⟨i, b, s, ps, ks⟩ = (ps.all okSt && knOk ks) by unfold okCh; dsimp only; rw [HI.out, o1, o2, decide_eq_true hp9, Bool.true_and, Bool.true_and, Bool.true_and, Bool.true_and])
  have d1 : decide (90 < (ps.length : Int)) = false := decide_eq_false (by omega)
  clear o1 o2
  rcases hi with rfl | rfl
  all_goals
    go_enter Try.func19, Try.ntmps19
    go_wp2_with (first
      | ((with_reducible refine gate_dst (N := 1) rfl ?_); refine aBx S ?_; clear S; intro gC w9 z9 S)
      | (go_at_call 67; (with_reducible refine (BankOk_r _ b _ (tBk.fr S.frame h11) O1.out).mono ?_); rintro e w9 ⟨rfl, f9⟩; replace S := S.fr f9; clear f9)
      | (go_at_call 68; (with_reducible refine (StateOk_r _ s _ (tSt.fr S.frame h12) O2.out).mono ?_); rintro e w9 ⟨rfl, f9⟩; replace S := S.fr f9; clear f9)
      | ((with_reducible refine gate_box rfl ?_); refine aBx S ?_; clear S; intro g9 w9 z9 S) | ((with_reducible refine gate_alloc rfl ?_); refine aAl S ?_; clear S; intro g9 w9 z9 S) | ((with_reducible refine gate_load rfl ?_); first | refine aLd S ?_ | refine aPt S ?_ | refine aL1 S ?_) | ((with_reducible refine gate_st rfl ?_); (first | refine aS1 S ?_ | refine aSt S ?_ | refine aSp S ?_); clear S; intro w9 S))
    go_loopw [37] (fun i wr => ∃ k : Nat, k ≤ ps.length ∧ i = .int .i64 k ∧ (ps.take k).all okSt = true ∧ Sep [] w [aBox gC 33 13 _] wr) (fun i _ => ps.length - (intOf i).toNat)
    case atStart => exact ⟨0, Nat.zero_le _, rfl, by simp, S⟩
    case round =>
      clear S
      obtain ⟨k, hk1, rfl, hall, S⟩ := hrel
      have HA := Lib.hid hall
      clear hall
      by_cases hlt : k < ps.length
      · obtain ⟨ad1, cs1, rfl, r1, g1⟩ := cellsAt_of_row h13 k hlt
        have G1 := Lib.hid (fun (W : World) (f : Fr w W) => g1.fr f)
        have Q1 := Lib.hid (fun (W : World) (f : Fr w W) => tSt.fr f r1)
        have N1 := Lib.hid (show cs1.length = 7 from tSt.len r1)
        have n1 := tSt_rd_one r1
        have HL := Lib.hid hlt
        have p0 : (0 : Int) ≤ (k : Int) := Int.natCast_nonneg _
        have p1 : (k : Int) < (ps.length : Int) := by omega
        clear g1 r1
        cases o1 : okSt (ps[k]'HL.out) with
        | false =>
          have R := Lib.hid (show (ps.all okSt && knOk ks) = false by rw [past_bad HL.out o1]; rfl)
          have O3 := Lib.hid o1
          clear o1
          go_wp2_with (first
            | ((with_reducible refine gate_dst (N := 40) rfl ?_); refine aRw (G1.out _ S.frame) ?_ (hn := N1.out))
            | (go_at_call 68; (with_reducible refine (StateOk_r _ _ _ (Q1.out _ S.frame) O3.out).mono ?_); rintro e w9 ⟨rfl, f9⟩; replace S := S.fr f9; clear f9)
            | ((with_reducible refine gate_box rfl ?_); refine aBx S ?_; clear S; intro g9 w9 z9 S) | ((with_reducible refine gate_alloc rfl ?_); refine aAl S ?_; clear S; intro g9 w9 z9 S) | ((with_reducible refine gate_load rfl ?_); first | refine aLd S ?_ | refine aPt S ?_ | refine aL1 S ?_) | ((with_reducible refine gate_st rfl ?_); (first | refine aS1 S ?_ | refine aSt S ?_ | refine aSp S ?_); clear S; intro w9 S))
          go_ret
          exact ⟨ret_bool (by rw [R0.out, R.out]), S.frame⟩
        | true =>
          have R := Lib.hid (past_succ HL.out HA.out o1)
          have O3 := Lib.hid o1
          clear o1
          go_wp2_with (first
            | ((with_reducible refine gate_dst (N := 40) rfl ?_); refine aRw (G1.out _ S.frame) ?_ (hn := N1.out))
            | (go_at_call 68; (with_reducible refine (StateOk_r _ _ _ (Q1.out _ S.frame) O3.out).mono ?_); rintro e w9 ⟨rfl, f9⟩; replace S := S.fr f9; clear f9)
            | ((with_reducible refine gate_box rfl ?_); refine aBx S ?_; clear S; intro g9 w9 z9 S) | ((with_reducible refine gate_alloc rfl ?_); refine aAl S ?_; clear S; intro g9 w9 z9 S) | ((with_reducible refine gate_load rfl ?_); first | refine aLd S ?_ | refine aPt S ?_ | refine aL1 S ?_) | ((with_reducible refine gate_st rfl ?_); (first | refine aS1 S ?_ | refine aSt S ?_ | refine aSp S ?_); clear S; intro w9 S))
          go_roundw
          case rel => exact ⟨k + 1, by omega, by go_num, R.out, (Sep.only1 (a1 := aBox gC _ _ _) S delA)⟩
          case measure => simp [intOf]; omega
      · obtain rfl : k = ps.length := by omega
        rw [List.take_length] at HA
        have R1 := Lib.hid (show okCh _ = knOk ks from R0.out.trans (by rw [HA.out]; rfl))
        clear R0 HA
        go_wp2_with (first | ((with_reducible refine gate_box rfl ?_); refine aBx S ?_; clear S; intro g9 w9 z9 S) | ((with_reducible refine gate_alloc rfl ?_); refine aAl S ?_; clear S; intro g9 w9 z9 S) | ((with_reducible refine gate_load rfl ?_); first | refine aLd S ?_ | refine aPt S ?_ | refine aL1 S ?_) | ((with_reducible refine gate_st rfl ?_); (first | refine aS1 S ?_ | refine aSt S ?_ | refine aSp S ?_); clear S; intro w9 S))
        go_loopw [48, 5] (fun i bf wr => ∃ k : Nat, k ≤ ks.length ∧ i = .int .i64 k ∧ bf = .int .i64 (prevK ks k) ∧ (List.range k).all (kAt ks) = true ∧ Sep [] w [aBox gC 33 13 _] wr) (fun i _ _ => ks.length - (intOf i).toNat)
        case atStart => exact ⟨0, Nat.zero_le _, rfl, rfl, rfl, S⟩
        case round =>
          clear S
          obtain ⟨k, hk1, rfl, rfl, hall, S⟩ := hrel
          have HA := Lib.hid hall
          clear hall
          by_cases hlt : k < ks.length
          · obtain ⟨ad1, rfl, g1⟩ := row_int_at h14 k hlt
            have G1 := Lib.hid g1
            have KA := Lib.hid (kAt_eq hlt)
            have KB := Lib.hid (fun h => knOk_bad hlt h)
            have PS := Lib.hid (prevK_succ hlt)
            obtain ⟨x, hx⟩ : ∃ x, ks[k] = x := ⟨_, rfl⟩
            obtain ⟨p, hpv⟩ : ∃ p, prevK ks k = p := ⟨_, rfl⟩
            rw [hx] at G1 KA PS
            rw [hpv] at KA ⊢
            clear g1 hx hpv
            have p0 : (0 : Int) ≤ (k : Int) := Int.natCast_nonneg _
            have p1 : (k : Int) < (ks.length : Int) := by omega
            by_cases x1 : x ≤ p
            · have R := Lib.hid (show knOk ks = false from KB.out (by rw [KA.out, decide_eq_false (by omega)]; rfl))
              go_wp2_with (first
                | ((with_reducible refine gate_dst (N := 51) rfl ?_); refine aRc (S.frame.cell G1.out) ?_)
                | ((with_reducible refine gate_box rfl ?_); refine aBx S ?_; clear S; intro g9 w9 z9 S) | ((with_reducible refine gate_alloc rfl ?_); refine aAl S ?_; clear S; intro g9 w9 z9 S) | ((with_reducible refine gate_load rfl ?_); first | refine aLd S ?_ | refine aPt S ?_ | refine aL1 S ?_) | ((with_reducible refine gate_st rfl ?_); (first | refine aS1 S ?_ | refine aSt S ?_ | refine aSp S ?_); clear S; intro w9 S))
              go_ret
              exact ⟨ret_bool (by rw [R1.out, R.out]), S.frame⟩
            by_cases x2 : x ≤ 90
            · have R := Lib.hid (show kAt ks k = true by rw [KA.out, decide_eq_true x2, decide_eq_true (show p < x by omega)]; rfl)
              have d2 : decide (x ≤ p) = false := decide_eq_false x1
              have d3 : decide (90 < x) = false := decide_eq_false (by omega)
              go_wp2_with (first
                | ((with_reducible refine gate_dst (N := 51) rfl ?_); refine aRc (S.frame.cell G1.out) ?_)
                | ((with_reducible refine gate_box rfl ?_); refine aBx S ?_; clear S; intro g9 w9 z9 S) | ((with_reducible refine gate_alloc rfl ?_); refine aAl S ?_; clear S; intro g9 w9 z9 S) | ((with_reducible refine gate_load rfl ?_); first | refine aLd S ?_ | refine aPt S ?_ | refine aL1 S ?_) | ((with_reducible refine gate_st rfl ?_); (first | refine aS1 S ?_ | refine aSt S ?_ | refine aSp S ?_); clear S; intro w9 S))
              go_roundw
              case rel => exact ⟨k + 1, by omega, by go_num, by rw [PS.out], range_all_succ HA.out R.out, S⟩
              case measure => simp [intOf]; omega
            · have R := Lib.hid (show knOk ks = false from KB.out (by rw [KA.out, decide_eq_false x2, Bool.and_false]))
              have d2 : decide (x ≤ p) = false := decide_eq_false x1
              have d3 : decide (90 < x) = true := decide_eq_true (by omega)
              go_wp2_with (first
                | ((with_reducible refine gate_dst (N := 51) rfl ?_); refine aRc (S.frame.cell G1.out) ?_)
                | ((with_reducible refine gate_box rfl ?_); refine aBx S ?_; clear S; intro g9 w9 z9 S) | ((with_reducible refine gate_alloc rfl ?_); refine aAl S ?_; clear S; intro g9 w9 z9 S) | ((with_reducible refine gate_load rfl ?_); first | refine aLd S ?_ | refine aPt S ?_ | refine aL1 S ?_) | ((with_reducible refine gate_st rfl ?_); (first | refine aS1 S ?_ | refine aSt S ?_ | refine aSp S ?_); clear S; intro w9 S))
              go_ret
              exact ⟨ret_bool (by rw [R1.out, R.out]), S.frame⟩
          · obtain rfl : k = ks.length := by omega
            have R := Lib.hid (show knOk ks = true from HA.out)
            go_wp2_with (first | ((with_reducible refine gate_box rfl ?_); refine aBx S ?_; clear S; intro g9 w9 z9 S) | ((with_reducible refine gate_alloc rfl ?_); refine aAl S ?_; clear S; intro g9 w9 z9 S) | ((with_reducible refine gate_load rfl ?_); first | refine aLd S ?_ | refine aPt S ?_ | refine aL1 S ?_) | ((with_reducible refine gate_st rfl ?_); (first | refine aS1 S ?_ | refine aSt S ?_ | refine aSp S ?_); clear S; intro w9 S))
            go_ret
            exact ⟨ret_bool (by rw [R1.out, R.out]), S.frame⟩
end Go.Proofs.Ytapdcgjccckjeaa
