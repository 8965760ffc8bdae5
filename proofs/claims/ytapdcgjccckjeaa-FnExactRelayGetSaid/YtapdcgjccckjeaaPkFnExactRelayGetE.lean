/- The texts ChOk, ChOkS, ChNext, Lnk, BankNew, StNew, LnkC, LnkD, ChAt. -/
import Derived.Test.YtapdcgjccckjeaaPkFnExactRelayGetD
import Derived.RegionTactic
namespace Go.Proofs.Ytapdcgjccckjeaa
set_option maxRecDepth 100000
set_option linter.unusedVariables false
set_option linter.unusedSimpArgs false
open Go.RowKit
def prevK (ks : List Int) (k : Nat) : Int := if k = 0 then 0 else ks.getD (k - 1) 0
def kAt (ks : List Int) (k : Nat) : Bool := decide (prevK ks k < ks.getD k 0) && decide (ks.getD k 0 ≤ 90)
def knOk (ks : List Int) : Bool := (List.range ks.length).all (kAt ks)
def okCh (c : Ch) : Bool := decide (1 ≤ c.id ∧ c.id ≤ 2) && (okBk c.bank && (okSt c.st && (decide (c.past.length ≤ 90) && (c.past.all okSt && knOk c.knows))))
theorem knOk_bad {ks : List Int} {k : Nat} (hk : k < ks.length) (h : kAt ks k = false) : knOk ks = false := by
  cases e : knOk ks with
  | false => rfl
  | true =>
    have := List.all_eq_true.1 e k (List.mem_range.2 hk)
    rw [h] at this
    cases this
theorem kAt_eq {ks : List Int} {k : Nat} (hk : k < ks.length) : kAt ks k = (decide (prevK ks k < ks[k]) && decide (ks[k] ≤ 90)) := by
  unfold kAt
  simp [hk]
theorem prevK_succ {ks : List Int} {k : Nat} (hk : k < ks.length) : prevK ks (k + 1) = ks[k] := by
  unfold prevK
  simp [hk]
theorem prevK_pos {ks : List Int} : ∀ {k : Nat}, k ≤ ks.length → (List.range k).all (kAt ks) = true → 0 ≤ prevK ks k
  | 0, _, _ => by simp [prevK]
  | k + 1, hk, h => by
    have h1 : (List.range k).all (kAt ks) = true := by
      rw [List.range_succ, List.all_append, Bool.and_eq_true] at h
      exact h.1
    have h2 : kAt ks k = true := by
      rw [List.range_succ, List.all_append, Bool.and_eq_true] at h
      simpa using h.2
    have h3 := prevK_pos (Nat.le_of_succ_le hk) h1
    rw [prevK_succ (by omega)]
    rw [kAt_eq (by omega), Bool.and_eq_true, decide_eq_true_eq] at h2
    omega
theorem past_bad {ss : List St} {k : Nat} (hk : k < ss.length) (h : okSt ss[k] = false) : ss.all okSt = false := by
  cases e : ss.all okSt with
  | false => rfl
  | true =>
    have := List.all_eq_true.1 e _ (List.getElem_mem hk)
    rw [h] at this
    cases this
theorem past_succ {ss : List St} {k : Nat} (hk : k < ss.length) (h : (ss.take k).all okSt = true) (hr : okSt ss[k] = true) : (ss.take (k + 1)).all okSt = true := by
  rw [List.take_succ_eq_append_getElem hk, List.all_append, h]
  simp [hr]
theorem tSt_rd_one {w : World} {s : St} {cs : List Value} (h : tSt.rd w s cs) : ∀ u ∈ cs, u.oneCell' = true := by
  obtain ⟨v1, v2, v3, v4, rfl, h1, h2, h3, h4, _⟩ := h
  obtain ⟨A1, c1, rfl⟩ := h1.val
  obtain ⟨A2, c2, rfl⟩ := h2.val
  obtain ⟨A3, c3, rfl⟩ := h3.val
  obtain ⟨A4, c4, rfl⟩ := h4.val
  intro u hu
  simp only [List.mem_cons, List.not_mem_nil, or_false] at hu
  rcases hu with rfl | rfl | rfl | rfl | rfl | rfl | rfl <;> rfl
theorem BankOk_r (w : World) (b : Bk) (c1 : List Value) (h1 : tBk.rd w b c1) {r : Bool} (h : okBk b = r) : Calls Try.prog 67 #[.agg c1.toArray] w (Ret (.bool r) w) := h ▸ BankOk_c w b c1 h1
theorem sBankOk_r (w : World) (b : Bk) (c1 : List Value) (h1 : tBk.rd w b c1) {r : Bool} (h : okBk b = r) : Calls Try.prog 87 #[.agg c1.toArray] w (Ret (.bool r) w) := h ▸ sBankOk_c w b c1 h1
set_option maxHeartbeats 6400000 in
theorem ChainOk_c (w : World) (c : Ch) (c1 : List Value) (h1 : tCh.rd w c c1) : Calls Try.prog 19 #[.agg c1.toArray] w (Ret (.bool (okCh c)) w) := by
  obtain ⟨i, b, s, ps, ks⟩ := c
  obtain ⟨b1, b2, s1, s2, s3, s4, v1, v2, rfl, h11, h12, h13, h14, h15⟩ := h1
  dsimp only at h11 h12 h13 h14 h15 ⊢
  obtain ⟨A1, n1, rfl⟩ := h13.val
  obtain ⟨A2, n2, rfl⟩ := h14.val
  have hp := h13.le
  have hk := h14.le
  clear h15
  have S := Sep.start w
  by_cases hi : i = 1 ∨ i = 2
  case neg =>
    have R := Lib.hid (show okCh ⟨i, b, s, ps, ks⟩ = false by unfold okCh; rw [decide_eq_false (by dsimp only; omega)]; rfl)
    have d1 : (i != 1) = true := by simp; omega
    have d2 : (i != 2) = true := by simp; omega
    clear hi
    go_enter Try.func19, Try.ntmps19
    go_wp2_with (first | ((with_reducible refine gate_box rfl ?_); refine aBx S ?_; clear S; intro g9 w9 z9 S) | ((with_reducible refine gate_alloc rfl ?_); refine aAl S ?_; clear S; intro g9 w9 z9 S) | ((with_reducible refine gate_load rfl ?_); first | refine aLd S ?_ | refine aPt S ?_ | refine aL1 S ?_) | ((with_reducible refine gate_st rfl ?_); (first | refine aS1 S ?_ | refine aSt S ?_ | refine aSp S ?_); clear S; intro w9 S))
    go_ret
    exact ⟨ret_bool R.out.symm, S.frame⟩
  have HI := Lib.hid (show decide (1 ≤ i ∧ i ≤ 2) = true by simp; omega)
  cases o1 : okBk b with
  | false =>
    have R := Lib.hid (show okCh ⟨i, b, s, ps, ks⟩ = false by unfold okCh; dsimp only; rw [o1, Bool.false_and, Bool.and_false])
    have O1 := Lib.hid o1
    clear o1
    rcases hi with rfl | rfl
    all_goals
      go_enter Try.func19, Try.ntmps19
      go_wp2_with (first
        | (go_at_call 67; (with_reducible refine (BankOk_r _ b _ (tBk.fr S.frame h11) O1.out).mono ?_); rintro e w9 ⟨rfl, f9⟩; replace S := S.fr f9; clear f9)
        | ((with_reducible refine gate_box rfl ?_); refine aBx S ?_; clear S; intro g9 w9 z9 S) | ((with_reducible refine gate_alloc rfl ?_); refine aAl S ?_; clear S; intro g9 w9 z9 S) | ((with_reducible refine gate_load rfl ?_); first | refine aLd S ?_ | refine aPt S ?_ | refine aL1 S ?_) | ((with_reducible refine gate_st rfl ?_); (first | refine aS1 S ?_ | refine aSt S ?_ | refine aSp S ?_); clear S; intro w9 S))
      go_ret
      exact ⟨ret_bool R.out.symm, S.frame⟩
  | true =>
  have O1 := Lib.hid o1
  cases o2 : okSt s with
  | false =>
    have R := Lib.hid (show okCh ⟨i, b, s, ps, ks⟩ = false by unfold okCh; dsimp only; rw [o2, Bool.false_and, Bool.and_false, Bool.and_false])
    have O2 := Lib.hid o2
    clear o1 o2
    rcases hi with rfl | rfl
    all_goals
      go_enter Try.func19, Try.ntmps19
      go_wp2_with (first
        | (go_at_call 67; (with_reducible refine (BankOk_r _ b _ (tBk.fr S.frame h11) O1.out).mono ?_); rintro e w9 ⟨rfl, f9⟩; replace S := S.fr f9; clear f9)
        | (go_at_call 68; (with_reducible refine (StateOk_r _ s _ (tSt.fr S.frame h12) O2.out).mono ?_); rintro e w9 ⟨rfl, f9⟩; replace S := S.fr f9; clear f9)
        | ((with_reducible refine gate_box rfl ?_); refine aBx S ?_; clear S; intro g9 w9 z9 S) | ((with_reducible refine gate_alloc rfl ?_); refine aAl S ?_; clear S; intro g9 w9 z9 S) | ((with_reducible refine gate_load rfl ?_); first | refine aLd S ?_ | refine aPt S ?_ | refine aL1 S ?_) | ((with_reducible refine gate_st rfl ?_); (first | refine aS1 S ?_ | refine aSt S ?_ | refine aSp S ?_); clear S; intro w9 S))
      go_ret
      exact ⟨ret_bool R.out.symm, S.frame⟩
  | true =>
  have O2 := Lib.hid o2
  by_cases hp9 : ps.length ≤ 90
  case neg =>
    have R := Lib.hid (show okCh ⟨i, b, s, ps, ks⟩ = false by unfold okCh; dsimp only; rw [decide_eq_false hp9, Bool.false_and, Bool.and_false, Bool.and_false, Bool.and_false])
    have d1 : decide (90 < (ps.length : Int)) = true := decide_eq_true (by omega)
    clear o1 o2
    rcases hi with rfl | rfl
    all_goals
      go_enter Try.func19, Try.ntmps19
      go_wp2_with (first
        | (go_at_call 67; (with_reducible refine (BankOk_r _ b _ (tBk.fr S.frame h11) O1.out).mono ?_); rintro e w9 ⟨rfl, f9⟩; replace S := S.fr f9; clear f9)
        | (go_at_call 68; (with_reducible refine (StateOk_r _ s _ (tSt.fr S.frame h12) O2.out).mono ?_); rintro e w9 ⟨rfl, f9⟩; replace S := S.fr f9; clear f9)
        | ((with_reducible refine gate_box rfl ?_); refine aBx S ?_; clear S; intro g9 w9 z9 S) | ((with_reducible refine gate_alloc rfl ?_); refine aAl S ?_; clear S; intro g9 w9 z9 S) | ((with_reducible refine gate_load rfl ?_); first | refine aLd S ?_ | refine aPt S ?_ | refine aL1 S ?_) | ((with_reducible refine gate_st rfl ?_); (first | refine aS1 S ?_ | refine aSt S ?_ | refine aSp S ?_); clear S; intro w9 S))
      go_ret
      exact ⟨ret_bool R.out.symm, S.frame⟩
  have R0 := Lib.hid (show okCh ⟨i, b, s, ps, ks⟩ = (ps.all okSt && knOk ks) by unfold okCh; dsimp only; rw [HI.out, o1, o2, decide_eq_true hp9, Bool.true_and, Bool.true_and, Bool.true_and, Bool.true_and])
  have d1 : decide (90 < (ps.length : Int)) = false := decide_eq_false (by omega)
  clear o1 o2
  rcases hi with rfl | rfl
  all_goals
    go_enter Try.func19, Try.ntmps19
    go_wp2_with (first
      | ((with_reducible refine gate_dst (N := 1) rfl ?_); refine aBx S ?_; clear S; intro gC w9 z9 S)
      | (go_at_call 67; (with_reducible refine (BankOk_r _ b _ (tBk.fr S.frame h11) O1.out).mono ?_); rintro e w9 ⟨rfl, f9⟩; replace S := S.fr f9; clear f9)
      | (go_at_call 68; (with_reducible refine (StateOk_r _ s _ (tSt.fr S.frame h12) O2.out).mono ?_); rintro e w9 ⟨rfl, f9⟩; replace S := S.fr f9; clear f9)
      | ((with_reducible refine gate_box rfl ?_); refine aBx S ?_; clear S; intro g9 w9 z9 S) | ((with_reducible refine gate_alloc rfl ?_); refine aAl S ?_; clear S; intro g9 w9 z9 S) | ((with_reducible refine gate_load rfl ?_); first | refine aLd S ?_ | refine aPt S ?_ | refine aL1 S ?_) | ((with_reducible refine gate_st rfl ?_); (first | refine aS1 S ?_ | refine aSt S ?_ | refine aSp S ?_); clear S; intro w9 S))
    go_loopw [37] (fun i wr => ∃ k : Nat, k ≤ ps.length ∧ i = .int .i64 k ∧ (ps.take k).all okSt = true ∧ Sep [] w [aBox gC 33 13 _] wr) (fun i _ => ps.length - (intOf i).toNat)
    case atStart => exact ⟨0, Nat.zero_le _, rfl, by simp, S⟩
    case round =>
      clear S
      obtain ⟨k, hk1, rfl, hall, S⟩ := hrel
      have HA := Lib.hid hall
      clear hall
      by_cases hlt : k < ps.length
      · obtain ⟨ad1, cs1, rfl, r1, g1⟩ := cellsAt_of_row h13 k hlt
        have G1 := Lib.hid (fun (W : World) (f : Fr w W) => g1.fr f)
        have Q1 := Lib.hid (fun (W : World) (f : Fr w W) => tSt.fr f r1)
        have N1 := Lib.hid (show cs1.length = 7 from tSt.len r1)
        have n1 := tSt_rd_one r1
        have HL := Lib.hid hlt
        have p0 : (0 : Int) ≤ (k : Int) := Int.natCast_nonneg _
        have p1 : (k : Int) < (ps.length : Int) := by omega
        clear g1 r1
        cases o1 : okSt (ps[k]'HL.out) with
        | false =>
          have R := Lib.hid (show (ps.all okSt && knOk ks) = false by rw [past_bad HL.out o1]; rfl)
          have O3 := Lib.hid o1
          clear o1
          go_wp2_with (first
            | ((with_reducible refine gate_dst (N := 40) rfl ?_); refine aRw (G1.out _ S.frame) ?_ (hn := N1.out))
            | (go_at_call 68; (with_reducible refine (StateOk_r _ _ _ (Q1.out _ S.frame) O3.out).mono ?_); rintro e w9 ⟨rfl, f9⟩; replace S := S.fr f9; clear f9)
            | ((with_reducible refine gate_box rfl ?_); refine aBx S ?_; clear S; intro g9 w9 z9 S) | ((with_reducible refine gate_alloc rfl ?_); refine aAl S ?_; clear S; intro g9 w9 z9 S) | ((with_reducible refine gate_load rfl ?_); first | refine aLd S ?_ | refine aPt S ?_ | refine aL1 S ?_) | ((with_reducible refine gate_st rfl ?_); (first | refine aS1 S ?_ | refine aSt S ?_ | refine aSp S ?_); clear S; intro w9 S))
          go_ret
          exact ⟨ret_bool (by rw [R0.out, R.out]), S.frame⟩
        | true =>
          have R := Lib.hid (past_succ HL.out HA.out o1)
          have O3 := Lib.hid o1
          clear o1
          go_wp2_with (first
            | ((with_reducible refine gate_dst (N := 40) rfl ?_); refine aRw (G1.out _ S.frame) ?_ (hn := N1.out))
            | (go_at_call 68; (with_reducible refine (StateOk_r _ _ _ (Q1.out _ S.frame) O3.out).mono ?_); rintro e w9 ⟨rfl, f9⟩; replace S := S.fr f9; clear f9)
            | ((with_reducible refine gate_box rfl ?_); refine aBx S ?_; clear S; intro g9 w9 z9 S) | ((with_reducible refine gate_alloc rfl ?_); refine aAl S ?_; clear S; intro g9 w9 z9 S) | ((with_reducible refine gate_load rfl ?_); first | refine aLd S ?_ | refine aPt S ?_ | refine aL1 S ?_) | ((with_reducible refine gate_st rfl ?_); (first | refine aS1 S ?_ | refine aSt S ?_ | refine aSp S ?_); clear S; intro w9 S))
          go_roundw
          case rel => exact ⟨k + 1, by omega, by go_num, R.out, (Sep.only1 (a1 := aBox gC _ _ _) S delA)⟩
          case measure => simp [intOf]; omega
      · obtain rfl : k = ps.length := by omega
        rw [List.take_length] at HA
        have R1 := Lib.hid (show okCh _ = knOk ks from R0.out.trans (by rw [HA.out]; rfl))
        clear R0 HA
        go_wp2_with (first | ((with_reducible refine gate_box rfl ?_); refine aBx S ?_; clear S; intro g9 w9 z9 S) | ((with_reducible refine gate_alloc rfl ?_); refine aAl S ?_; clear S; intro g9 w9 z9 S) | ((with_reducible refine gate_load rfl ?_); first | refine aLd S ?_ | refine aPt S ?_ | refine aL1 S ?_) | ((with_reducible refine gate_st rfl ?_); (first | refine aS1 S ?_ | refine aSt S ?_ | refine aSp S ?_); clear S; intro w9 S))
        go_loopw [48, 5] (fun i bf wr => ∃ k : Nat, k ≤ ks.length ∧ i = .int .i64 k ∧ bf = .int .i64 (prevK ks k) ∧ (List.range k).all (kAt ks) = true ∧ Sep [] w [aBox gC 33 13 _] wr) (fun i _ _ => ks.length - (intOf i).toNat)
        case atStart => exact ⟨0, Nat.zero_le _, rfl, rfl, rfl, S⟩
        case round =>
          clear S
          obtain ⟨k, hk1, rfl, rfl, hall, S⟩ := hrel
          have HA := Lib.hid hall
          clear hall
          by_cases hlt : k < ks.length
          · obtain ⟨ad1, rfl, g1⟩ := row_int_at h14 k hlt
            have G1 := Lib.hid g1
            have KA := Lib.hid (kAt_eq hlt)
            have KB := Lib.hid (fun h => knOk_bad hlt h)
            have PS := Lib.hid (prevK_succ hlt)
            obtain ⟨x, hx⟩ : ∃ x, ks[k] = x := ⟨_, rfl⟩
            obtain ⟨p, hpv⟩ : ∃ p, prevK ks k = p := ⟨_, rfl⟩
            rw [hx] at G1 KA PS
            rw [hpv] at KA ⊢
            clear g1 hx hpv
            have p0 : (0 : Int) ≤ (k : Int) := Int.natCast_nonneg _
            have p1 : (k : Int) < (ks.length : Int) := by omega
            by_cases x1 : x ≤ p
            · have R := Lib.hid (show knOk ks = false from KB.out (by rw [KA.out, decide_eq_false (by omega)]; rfl))
              go_wp2_with (first
                | ((with_reducible refine gate_dst (N := 51) rfl ?_); refine aRc (S.frame.cell G1.out) ?_)
                | ((with_reducible refine gate_box rfl ?_); refine aBx S ?_; clear S; intro g9 w9 z9 S) | ((with_reducible refine gate_alloc rfl ?_); refine aAl S ?_; clear S; intro g9 w9 z9 S) | ((with_reducible refine gate_load rfl ?_); first | refine aLd S ?_ | refine aPt S ?_ | refine aL1 S ?_) | ((with_reducible refine gate_st rfl ?_); (first | refine aS1 S ?_ | refine aSt S ?_ | refine aSp S ?_); clear S; intro w9 S))
              go_ret
              exact ⟨ret_bool (by rw [R1.out, R.out]), S.frame⟩
            by_cases x2 : x ≤ 90
            · have R := Lib.hid (show kAt ks k = true by rw [KA.out, decide_eq_true x2, decide_eq_true (show p < x by omega)]; rfl)
              have d2 : decide (x ≤ p) = false := decide_eq_false x1
              have d3 : decide (90 < x) = false := decide_eq_false (by omega)
              go_wp2_with (first
                | ((with_reducible refine gate_dst (N := 51) rfl ?_); refine aRc (S.frame.cell G1.out) ?_)
                | ((with_reducible refine gate_box rfl ?_); refine aBx S ?_; clear S; intro g9 w9 z9 S) | ((with_reducible refine gate_alloc rfl ?_); refine aAl S ?_; clear S; intro g9 w9 z9 S) | ((with_reducible refine gate_load rfl ?_); first | refine aLd S ?_ | refine aPt S ?_ | refine aL1 S ?_) | ((with_reducible refine gate_st rfl ?_); (first | refine aS1 S ?_ | refine aSt S ?_ | refine aSp S ?_); clear S; intro w9 S))
              go_roundw
              case rel => exact ⟨k + 1, by omega, by go_num, by rw [PS.out], range_all_succ HA.out R.out, S⟩
              case measure => simp [intOf]; omega
            · have R := Lib.hid (show knOk ks = false from KB.out (by rw [KA.out, decide_eq_false x2, Bool.and_false]))
              have d2 : decide (x ≤ p) = false := decide_eq_false x1
              have d3 : decide (90 < x) = true := decide_eq_true (by omega)
              go_wp2_with (first
                | ((with_reducible refine gate_dst (N := 51) rfl ?_); refine aRc (S.frame.cell G1.out) ?_)
                | ((with_reducible refine gate_box rfl ?_); refine aBx S ?_; clear S; intro g9 w9 z9 S) | ((with_reducible refine gate_alloc rfl ?_); refine aAl S ?_; clear S; intro g9 w9 z9 S) | ((with_reducible refine gate_load rfl ?_); first | refine aLd S ?_ | refine aPt S ?_ | refine aL1 S ?_) | ((with_reducible refine gate_st rfl ?_); (first | refine aS1 S ?_ | refine aSt S ?_ | refine aSp S ?_); clear S; intro w9 S))
              go_ret
              exact ⟨ret_bool (by rw [R1.out, R.out]), S.frame⟩
          · obtain rfl : k = ks.length := by omega
            have R := Lib.hid (show knOk ks = true from HA.out)
            go_wp2_with (first | ((with_reducible refine gate_box rfl ?_); refine aBx S ?_; clear S; intro g9 w9 z9 S) | ((with_reducible refine gate_alloc rfl ?_); refine aAl S ?_; clear S; intro g9 w9 z9 S) | ((with_reducible refine gate_load rfl ?_); first | refine aLd S ?_ | refine aPt S ?_ | refine aL1 S ?_) | ((with_reducible refine gate_st rfl ?_); (first | refine aS1 S ?_ | refine aSt S ?_ | refine aSp S ?_); clear S; intro w9 S))
            go_ret
            exact ⟨ret_bool (by rw [R1.out, R.out]), S.frame⟩
end Go.Proofs.Ytapdcgjccckjeaa
namespace Go.Proofs.Ytapdcgjccckjeaa
set_option maxRecDepth 100000
set_option linter.unusedVariables false
set_option linter.unusedSimpArgs false
open Go.RowKit
set_option maxHeartbeats 6400000 in
theorem sChainOk_c (w : World) (c : Ch) (c1 : List Value) (h1 : tCh.rd w c c1) : Calls Try.prog 33 #[.agg c1.toArray] w (Ret (.bool (okCh c)) w) := by
  obtain ⟨i, b, s, ps, ks⟩ := c
  obtain ⟨b1, b2, s1, s2, s3, s4, v1, v2, rfl, h11, h12, h13, h14, h15⟩ := h1
  dsimp only at h11 h12 h13 h14 h15 ⊢
  obtain ⟨A1, n1, rfl⟩ := h13.val
  obtain ⟨A2, n2, rfl⟩ := h14.val
  have hp := h13.le
  have hk := h14.le
  clear h15
  have S := Sep.start w
  cases hi : decide (1 ≤ i ∧ i ≤ 2) with
  | false =>
    have R := Lib.hid (show okCh ⟨i, b, s, ps, ks⟩ = false by unfold okCh; dsimp only; rw [hi]; rfl)
    have HI := Lib.hid hi
    clear hi
    go_enter Try.func33, Try.ntmps33
    go_wp2_with (first
      | (go_at_call 61; (with_reducible refine (l6In_e _ i 1 2 HI.out).mono ?_); rintro e w9 ⟨rfl, rfl⟩)
      | ((with_reducible refine gate_box rfl ?_); refine aBx S ?_; clear S; intro g9 w9 z9 S) | ((with_reducible refine gate_alloc rfl ?_); refine aAl S ?_; clear S; intro g9 w9 z9 S) | ((with_reducible refine gate_load rfl ?_); first | refine aLd S ?_ | refine aPt S ?_ | refine aL1 S ?_) | ((with_reducible refine gate_st rfl ?_); (first | refine aS1 S ?_ | refine aSt S ?_ | refine aSp S ?_); clear S; intro w9 S))
    go_ret
    exact ⟨ret_bool R.out.symm, S.frame⟩
  | true =>
  have HI := Lib.hid hi
  cases o1 : okBk b with
  | false =>
    have R := Lib.hid (show okCh ⟨i, b, s, ps, ks⟩ = false by unfold okCh; dsimp only; rw [o1, Bool.false_and, Bool.and_false])
    have O1 := Lib.hid o1
    clear o1 hi
    go_enter Try.func33, Try.ntmps33
    go_wp2_with (first
      | (go_at_call 61; (with_reducible refine (l6In_e _ i 1 2 HI.out).mono ?_); rintro e w9 ⟨rfl, rfl⟩)
      | (go_at_call 87; (with_reducible refine (sBankOk_r _ b _ (tBk.fr S.frame h11) O1.out).mono ?_); rintro e w9 ⟨rfl, f9⟩; replace S := S.fr f9; clear f9)
      | ((with_reducible refine gate_box rfl ?_); refine aBx S ?_; clear S; intro g9 w9 z9 S) | ((with_reducible refine gate_alloc rfl ?_); refine aAl S ?_; clear S; intro g9 w9 z9 S) | ((with_reducible refine gate_load rfl ?_); first | refine aLd S ?_ | refine aPt S ?_ | refine aL1 S ?_) | ((with_reducible refine gate_st rfl ?_); (first | refine aS1 S ?_ | refine aSt S ?_ | refine aSp S ?_); clear S; intro w9 S))
    go_ret
    exact ⟨ret_bool R.out.symm, S.frame⟩
  | true =>
  have O1 := Lib.hid o1
  cases o2 : okSt s with
  | false =>
    have R := Lib.hid (show okCh ⟨i, b, s, ps, ks⟩ = false by unfold okCh; dsimp only; rw [o2, Bool.false_and, Bool.and_false, Bool.and_false])
    have O2 := Lib.hid o2
    clear o1 o2 hi
    go_enter Try.func33, Try.ntmps33
    go_wp2_with (first
      | (go_at_call 61; (with_reducible refine (l6In_e _ i 1 2 HI.out).mono ?_); rintro e w9 ⟨rfl, rfl⟩)
      | (go_at_call 87; (with_reducible refine (sBankOk_r _ b _ (tBk.fr S.frame h11) O1.out).mono ?_); rintro e w9 ⟨rfl, f9⟩; replace S := S.fr f9; clear f9)
      | (go_at_call 88; (with_reducible refine (sStateOk_r _ s _ (tSt.fr S.frame h12) O2.out).mono ?_); rintro e w9 ⟨rfl, f9⟩; replace S := S.fr f9; clear f9)
      | ((with_reducible refine gate_box rfl ?_); refine aBx S ?_; clear S; intro g9 w9 z9 S) | ((with_reducible refine gate_alloc rfl ?_); refine aAl S ?_; clear S; intro g9 w9 z9 S) | ((with_reducible refine gate_load rfl ?_); first | refine aLd S ?_ | refine aPt S ?_ | refine aL1 S ?_) | ((with_reducible refine gate_st rfl ?_); (first | refine aS1 S ?_ | refine aSt S ?_ | refine aSp S ?_); clear S; intro w9 S))
    go_ret
    exact ⟨ret_bool R.out.symm, S.frame⟩
  | true =>
  have O2 := Lib.hid o2
  by_cases hp9 : ps.length ≤ 90
  case neg =>
    have R := Lib.hid (show okCh ⟨i, b, s, ps, ks⟩ = false by unfold okCh; dsimp only; rw [decide_eq_false hp9, Bool.false_and, Bool.and_false, Bool.and_false, Bool.and_false])
    have d1 : decide (90 < (ps.length : Int)) = true := decide_eq_true (by omega)
    clear o1 o2 hi
    go_enter Try.func33, Try.ntmps33
    go_wp2_with (first
      | (go_at_call 61; (with_reducible refine (l6In_e _ i 1 2 HI.out).mono ?_); rintro e w9 ⟨rfl, rfl⟩)
      | (go_at_call 87; (with_reducible refine (sBankOk_r _ b _ (tBk.fr S.frame h11) O1.out).mono ?_); rintro e w9 ⟨rfl, f9⟩; replace S := S.fr f9; clear f9)
      | (go_at_call 88; (with_reducible refine (sStateOk_r _ s _ (tSt.fr S.frame h12) O2.out).mono ?_); rintro e w9 ⟨rfl, f9⟩; replace S := S.fr f9; clear f9)
      | ((with_reducible refine gate_box rfl ?_); refine aBx S ?_; clear S; intro g9 w9 z9 S) | ((with_reducible refine gate_alloc rfl ?_); refine aAl S ?_; clear S; intro g9 w9 z9 S) | ((with_reducible refine gate_load rfl ?_); first | refine aLd S ?_ | refine aPt S ?_ | refine aL1 S ?_) | ((with_reducible refine gate_st rfl ?_); (first | refine aS1 S ?_ | refine aSt S ?_ | refine aSp S ?_); clear S; intro w9 S))
    go_ret
    exact ⟨ret_bool R.out.symm, S.frame⟩
  have R0 := Lib.hid (show okCh ⟨i, b, s, ps, ks⟩ = (ps.all okSt && knOk ks) by unfold okCh; dsimp only; rw [HI.out, o1, o2, decide_eq_true hp9, Bool.true_and, Bool.true_and, Bool.true_and, Bool.true_and])
  have d1 : decide (90 < (ps.length : Int)) = false := decide_eq_false (by omega)
  clear o1 o2 hi
  go_enter Try.func33, Try.ntmps33
  go_wp2_with (first
    | ((with_reducible refine gate_dst (N := 1) rfl ?_); refine aBx S ?_; clear S; intro gC w9 z9 S)
    | (go_at_call 61; (with_reducible refine (l6In_e _ i 1 2 HI.out).mono ?_); rintro e w9 ⟨rfl, rfl⟩)
    | (go_at_call 87; (with_reducible refine (sBankOk_r _ b _ (tBk.fr S.frame h11) O1.out).mono ?_); rintro e w9 ⟨rfl, f9⟩; replace S := S.fr f9; clear f9)
    | (go_at_call 88; (with_reducible refine (sStateOk_r _ s _ (tSt.fr S.frame h12) O2.out).mono ?_); rintro e w9 ⟨rfl, f9⟩; replace S := S.fr f9; clear f9)
    | ((with_reducible refine gate_box rfl ?_); refine aBx S ?_; clear S; intro g9 w9 z9 S) | ((with_reducible refine gate_alloc rfl ?_); refine aAl S ?_; clear S; intro g9 w9 z9 S) | ((with_reducible refine gate_load rfl ?_); first | refine aLd S ?_ | refine aPt S ?_ | refine aL1 S ?_) | ((with_reducible refine gate_st rfl ?_); (first | refine aS1 S ?_ | refine aSt S ?_ | refine aSp S ?_); clear S; intro w9 S))
  go_loopw [3] (fun i wr => ∃ k : Nat, k ≤ ps.length ∧ i = .int .i64 k ∧ (ps.take k).all okSt = true ∧ Sep [] w [aBox gC 33 13 _] wr) (fun i _ => ps.length - (intOf i).toNat)
  case atStart => exact ⟨0, Nat.zero_le _, rfl, by simp, S⟩
  case round =>
    clear S
    obtain ⟨k, hk1, rfl, hall, S⟩ := hrel
    have HA := Lib.hid hall
    clear hall
    by_cases hlt : k < ps.length
    · obtain ⟨ad1, cs1, rfl, r1, g1⟩ := cellsAt_of_row h13 k hlt
      have G1 := Lib.hid (fun (W : World) (f : Fr w W) => g1.fr f)
      have Q1 := Lib.hid (fun (W : World) (f : Fr w W) => tSt.fr f r1)
      have N1 := Lib.hid (show cs1.length = 7 from tSt.len r1)
      have HL := Lib.hid hlt
      have p0 : (0 : Int) ≤ (k : Int) := Int.natCast_nonneg _
      have p1 : (k : Int) < (ps.length : Int) := by omega
      clear g1 r1
      cases o1 : okSt (ps[k]'HL.out) with
      | false =>
        have R := Lib.hid (show (ps.all okSt && knOk ks) = false by rw [past_bad HL.out o1]; rfl)
        have O3 := Lib.hid o1
        clear o1
        go_wp2_with (first
          | ((with_reducible refine gate_dst (N := 38) rfl ?_); refine aRw (G1.out _ S.frame) ?_ (hn := N1.out))
          | (go_at_call 88; (with_reducible refine (sStateOk_r _ _ _ (Q1.out _ S.frame) O3.out).mono ?_); rintro e w9 ⟨rfl, f9⟩; replace S := S.fr f9; clear f9)
          | ((with_reducible refine gate_box rfl ?_); refine aBx S ?_; clear S; intro g9 w9 z9 S) | ((with_reducible refine gate_alloc rfl ?_); refine aAl S ?_; clear S; intro g9 w9 z9 S) | ((with_reducible refine gate_load rfl ?_); first | refine aLd S ?_ | refine aPt S ?_ | refine aL1 S ?_) | ((with_reducible refine gate_st rfl ?_); (first | refine aS1 S ?_ | refine aSt S ?_ | refine aSp S ?_); clear S; intro w9 S))
        go_ret
        exact ⟨ret_bool (by rw [R0.out, R.out]), S.frame⟩
      | true =>
        have R := Lib.hid (past_succ HL.out HA.out o1)
        have O3 := Lib.hid o1
        clear o1
        go_wp2_with (first
          | ((with_reducible refine gate_dst (N := 38) rfl ?_); refine aRw (G1.out _ S.frame) ?_ (hn := N1.out))
          | (go_at_call 88; (with_reducible refine (sStateOk_r _ _ _ (Q1.out _ S.frame) O3.out).mono ?_); rintro e w9 ⟨rfl, f9⟩; replace S := S.fr f9; clear f9)
          | ((with_reducible refine gate_box rfl ?_); refine aBx S ?_; clear S; intro g9 w9 z9 S) | ((with_reducible refine gate_alloc rfl ?_); refine aAl S ?_; clear S; intro g9 w9 z9 S) | ((with_reducible refine gate_load rfl ?_); first | refine aLd S ?_ | refine aPt S ?_ | refine aL1 S ?_) | ((with_reducible refine gate_st rfl ?_); (first | refine aS1 S ?_ | refine aSt S ?_ | refine aSp S ?_); clear S; intro w9 S))
        go_roundw
        case rel => exact ⟨k + 1, by omega, by go_num, R.out, S⟩
        case measure => simp [intOf]; omega
    · obtain rfl : k = ps.length := by omega
      rw [List.take_length] at HA
      have R1 := Lib.hid (show okCh _ = knOk ks from R0.out.trans (by rw [HA.out]; rfl))
      clear R0 HA
      go_wp2_with (first | ((with_reducible refine gate_box rfl ?_); refine aBx S ?_; clear S; intro g9 w9 z9 S) | ((with_reducible refine gate_alloc rfl ?_); refine aAl S ?_; clear S; intro g9 w9 z9 S) | ((with_reducible refine gate_load rfl ?_); first | refine aLd S ?_ | refine aPt S ?_ | refine aL1 S ?_) | ((with_reducible refine gate_st rfl ?_); (first | refine aS1 S ?_ | refine aSt S ?_ | refine aSp S ?_); clear S; intro w9 S))
      go_loopw [4] (fun i wr => ∃ k : Nat, k ≤ ks.length ∧ i = .int .i64 k ∧ (List.range k).all (kAt ks) = true ∧ Sep [] w [aBox gC 33 13 _] wr) (fun i _ => ks.length - (intOf i).toNat)
      case atStart => exact ⟨0, Nat.zero_le _, rfl, rfl, S⟩
      case round =>
        clear S
        obtain ⟨k, hk1, rfl, hall, S⟩ := hrel
        have HA := Lib.hid hall
        have PP := Lib.hid (prevK_pos hk1 hall)
        clear hall
        by_cases hlt : k < ks.length
        · obtain ⟨ad1, rfl, g1⟩ := row_int_at h14 k hlt
          have G1 := Lib.hid g1
          have KA := Lib.hid (kAt_eq hlt)
          have KB := Lib.hid (fun h => knOk_bad hlt h)
          obtain ⟨x, hx⟩ : ∃ x, ks[k] = x := ⟨_, rfl⟩
          rw [hx] at G1 KA
          clear hx
          have p1 : (k : Int) < (ks.length : Int) := by omega
          rcases k with _ | m
          · have G0 := G1
            have PV := Lib.hid (show prevK ks 0 = 0 from rfl)
            cases x1 : decide (1 ≤ x ∧ x ≤ 90) with
            | false =>
              have X1 := Lib.hid x1
              have R := Lib.hid (show knOk ks = false from KB.out (by rw [KA.out, PV.out]; simp at x1 ⊢; omega))
              clear x1 g1
              go_wp2_with (first | ((with_reducible refine gate_box rfl ?_); refine aBx S ?_; clear S; intro g9 w9 z9 S) | ((with_reducible refine gate_alloc rfl ?_); refine aAl S ?_; clear S; intro g9 w9 z9 S) | ((with_reducible refine gate_load rfl ?_); first | refine aLd S ?_ | refine aPt S ?_ | refine aL1 S ?_) | ((with_reducible refine gate_st rfl ?_); (first | refine aS1 S ?_ | refine aSt S ?_ | refine aSp S ?_); clear S; intro w9 S))
              have S0 := S
              refine wp_region_noPanic ?_
              refine wp_region_held_drew (S := Sep _ _ _) (by kernel_rfl) S0.drew (fun _ => ?_)
              replace S := S.drew
              clear S0
              refine tk 0 ?_
              (try simp only [Act.put, List.setIfInBounds_toArray, List.set_cons_zero, List.set_cons_succ])
              refine tk 1 ?_
              (try simp only [Act.put, List.setIfInBounds_toArray, List.set_cons_zero, List.set_cons_succ])
              refine tk 2 ?_
              (try simp only [Act.put, List.setIfInBounds_toArray, List.set_cons_zero, List.set_cons_succ])
              refine tk 3 ?_
              (try simp only [Act.put, List.setIfInBounds_toArray, List.set_cons_zero, List.set_cons_succ])
              refine tk 4 ?_ (hy := by exact yRc (fun w' h => h.frame.cell G1.out))
              (try simp only [Act.put, List.setIfInBounds_toArray, List.set_cons_zero, List.set_cons_succ])
              refine rdy1 5 (fun K hK => ?_)
              go_simp; (skip; go_at_call 61; (with_reducible refine (l6In_e _ x 1 90 X1.out).mono ?_); rintro e w9 ⟨rfl, rfl⟩)
              (first | refine hK.out _ _ (S.sub subA) (fun _ => ?_) | (go_wp2_with fail; refine hK.out _ _ (S.sub subA) (fun _ => ?_)))
              clear hK K
              (try simp only [Act.put, List.setIfInBounds_toArray, List.set_cons_zero, List.set_cons_succ])
              refine tk 6 ?_
              (try simp only [Act.put, List.setIfInBounds_toArray, List.set_cons_zero, List.set_cons_succ])
              refine tk 7 ?_
              (try simp only [Act.put, List.setIfInBounds_toArray, List.set_cons_zero, List.set_cons_succ])
              refine tk 8 ?_
              (try simp only [Act.put, List.setIfInBounds_toArray, List.set_cons_zero, List.set_cons_succ])
              refine tk 9 ?_
              (try simp only [Act.put, List.setIfInBounds_toArray, List.set_cons_zero, List.set_cons_succ])
              refine tk 10 ?_
              (try simp only [Act.put, List.setIfInBounds_toArray, List.set_cons_zero, List.set_cons_succ])
              refine tk 11 ?_
              (try simp only [Act.put, List.setIfInBounds_toArray, List.set_cons_zero, List.set_cons_succ])
              refine tk 12 ?_
              (try simp only [Act.put, List.setIfInBounds_toArray, List.set_cons_zero, List.set_cons_succ])
              refine tk 13 ?_
              (try simp only [Act.put, List.setIfInBounds_toArray, List.set_cons_zero, List.set_cons_succ])
              refine tk 14 ?_
              (try simp only [Act.put, List.setIfInBounds_toArray, List.set_cons_zero, List.set_cons_succ])
              refine tk 15 ?_
              (try simp only [Act.put, List.setIfInBounds_toArray, List.set_cons_zero, List.set_cons_succ])
              refine tk 16 ?_ (hy := by first | exact yRc (fun w' h => h.frame.cell G0.out) | (refine Or.inr ⟨by rfl, ?_⟩; rfl))
              (try simp only [Act.put, List.setIfInBounds_toArray, List.set_cons_zero, List.set_cons_succ])
              refine tk 17 ?_
              (try simp only [Act.put, List.setIfInBounds_toArray, List.set_cons_zero, List.set_cons_succ])
              refine tk 18 ?_
              (try simp only [Act.put, List.setIfInBounds_toArray, List.set_cons_zero, List.set_cons_succ])
              refine tk 19 ?_
              (try simp only [Act.put, List.setIfInBounds_toArray, List.set_cons_zero, List.set_cons_succ])
              refine tk 20 ?_
              (try simp only [Act.put, List.setIfInBounds_toArray, List.set_cons_zero, List.set_cons_succ])
              refine tk 21 ?_ (hy := by first | exact yRc (fun w' h => h.frame.cell G1.out) | (refine Or.inr ⟨by rfl, ?_⟩; rfl))
              (try simp only [Act.put, List.setIfInBounds_toArray, List.set_cons_zero, List.set_cons_succ])
              refine tk 22 ?_
              (try simp only [Act.put, List.setIfInBounds_toArray, List.set_cons_zero, List.set_cons_succ])
              refine tk 23 ?_
              (try simp only [Act.put, List.setIfInBounds_toArray, List.set_cons_zero, List.set_cons_succ])
              refine tk 24 ?_
              (try simp only [Act.put, List.setIfInBounds_toArray, List.set_cons_zero, List.set_cons_succ])
              refine wpAnyH_done (by kernel_rfl) ?_ _
              refine NoPanic.normal ?_
              go_wp2
              go_ret
              exact ⟨ret_bool (by rw [R1.out, R.out]), S.frame⟩
            | true =>
              have X1 := Lib.hid x1
              have R := Lib.hid (show kAt ks 0 = true by rw [KA.out, PV.out]; simp at x1 ⊢; omega)
              clear x1 g1
              go_wp2_with (first | ((with_reducible refine gate_box rfl ?_); refine aBx S ?_; clear S; intro g9 w9 z9 S) | ((with_reducible refine gate_alloc rfl ?_); refine aAl S ?_; clear S; intro g9 w9 z9 S) | ((with_reducible refine gate_load rfl ?_); first | refine aLd S ?_ | refine aPt S ?_ | refine aL1 S ?_) | ((with_reducible refine gate_st rfl ?_); (first | refine aS1 S ?_ | refine aSt S ?_ | refine aSp S ?_); clear S; intro w9 S))
              have S0 := S
              refine wp_region_noPanic ?_
              refine wp_region_held_drew (S := Sep _ _ _) (by kernel_rfl) S0.drew (fun _ => ?_)
              replace S := S.drew
              clear S0
              refine tk 0 ?_
              (try simp only [Act.put, List.setIfInBounds_toArray, List.set_cons_zero, List.set_cons_succ])
              refine tk 1 ?_
              (try simp only [Act.put, List.setIfInBounds_toArray, List.set_cons_zero, List.set_cons_succ])
              refine tk 2 ?_
              (try simp only [Act.put, List.setIfInBounds_toArray, List.set_cons_zero, List.set_cons_succ])
              refine tk 3 ?_
              (try simp only [Act.put, List.setIfInBounds_toArray, List.set_cons_zero, List.set_cons_succ])
              refine tk 4 ?_ (hy := by exact yRc (fun w' h => h.frame.cell G1.out))
              (try simp only [Act.put, List.setIfInBounds_toArray, List.set_cons_zero, List.set_cons_succ])
              refine rdy1 5 (fun K hK => ?_)
              go_simp; (skip; go_at_call 61; (with_reducible refine (l6In_e _ x 1 90 X1.out).mono ?_); rintro e w9 ⟨rfl, rfl⟩)
              (first | refine hK.out _ _ (S.sub subA) (fun _ => ?_) | (go_wp2_with fail; refine hK.out _ _ (S.sub subA) (fun _ => ?_)))
              clear hK K
              (try simp only [Act.put, List.setIfInBounds_toArray, List.set_cons_zero, List.set_cons_succ])
              refine tk 6 ?_
              (try simp only [Act.put, List.setIfInBounds_toArray, List.set_cons_zero, List.set_cons_succ])
              refine tk 7 ?_
              (try simp only [Act.put, List.setIfInBounds_toArray, List.set_cons_zero, List.set_cons_succ])
              refine tk 8 ?_
              (try simp only [Act.put, List.setIfInBounds_toArray, List.set_cons_zero, List.set_cons_succ])
              refine tk 9 ?_
              (try simp only [Act.put, List.setIfInBounds_toArray, List.set_cons_zero, List.set_cons_succ])
              refine tk 10 ?_
              (try simp only [Act.put, List.setIfInBounds_toArray, List.set_cons_zero, List.set_cons_succ])
              refine tk 11 ?_
              (try simp only [Act.put, List.setIfInBounds_toArray, List.set_cons_zero, List.set_cons_succ])
              refine tk 12 ?_
              (try simp only [Act.put, List.setIfInBounds_toArray, List.set_cons_zero, List.set_cons_succ])
              refine tk 13 ?_
              (try simp only [Act.put, List.setIfInBounds_toArray, List.set_cons_zero, List.set_cons_succ])
              refine tk 14 ?_
              (try simp only [Act.put, List.setIfInBounds_toArray, List.set_cons_zero, List.set_cons_succ])
              refine tk 15 ?_
              (try simp only [Act.put, List.setIfInBounds_toArray, List.set_cons_zero, List.set_cons_succ])
              refine tk 16 ?_ (hy := by first | exact yRc (fun w' h => h.frame.cell G0.out) | (refine Or.inr ⟨by rfl, ?_⟩; rfl))
              (try simp only [Act.put, List.setIfInBounds_toArray, List.set_cons_zero, List.set_cons_succ])
              refine tk 17 ?_
              (try simp only [Act.put, List.setIfInBounds_toArray, List.set_cons_zero, List.set_cons_succ])
              refine tk 18 ?_
              (try simp only [Act.put, List.setIfInBounds_toArray, List.set_cons_zero, List.set_cons_succ])
              refine tk 19 ?_
              (try simp only [Act.put, List.setIfInBounds_toArray, List.set_cons_zero, List.set_cons_succ])
              refine tk 20 ?_
              (try simp only [Act.put, List.setIfInBounds_toArray, List.set_cons_zero, List.set_cons_succ])
              refine tk 21 ?_ (hy := by first | exact yRc (fun w' h => h.frame.cell G1.out) | (refine Or.inr ⟨by rfl, ?_⟩; rfl))
              (try simp only [Act.put, List.setIfInBounds_toArray, List.set_cons_zero, List.set_cons_succ])
              refine tk 22 ?_
              (try simp only [Act.put, List.setIfInBounds_toArray, List.set_cons_zero, List.set_cons_succ])
              refine tk 23 ?_
              (try simp only [Act.put, List.setIfInBounds_toArray, List.set_cons_zero, List.set_cons_succ])
              refine tk 24 ?_
              (try simp only [Act.put, List.setIfInBounds_toArray, List.set_cons_zero, List.set_cons_succ])
              refine wpAnyH_done (by kernel_rfl) ?_ _
              refine NoPanic.normal ?_
              go_wp2
              go_roundw
              case rel => exact ⟨_, by omega, by go_num, range_all_succ HA.out R.out, S⟩
              case measure => simp [intOf]; omega
          · have hm : m < ks.length := by omega
            obtain ⟨ad0, e0, g0⟩ := row_int_at h14 m hm
            cases e0
            have PV := Lib.hid (prevK_succ hm)
            obtain ⟨p, hpv⟩ : ∃ p, ks[m] = p := ⟨_, rfl⟩
            rw [hpv] at g0 PV
            have G0 := Lib.hid g0
            rw [PV.out] at KA PP
            clear g0 g1 hpv
            have q0 : (0 : Int) ≤ (m : Int) := Int.natCast_nonneg _
            have q1 : (m : Int) < (ks.length : Int) := by omega
            have q2 : (m : Int) + 1 < (ks.length : Int) := by omega
            have q3 : (0 : Int) ≤ (m : Int) + 1 := by omega
            have w1 : IntKind.i64.wrap ((m : Int) + 1 - 1) = (m : Int) := by rw [Int.add_sub_cancel]; exact IntWalk.i64_in _ (by omega)
            have w2 : IntKind.i64.wrap (m : Int) = (m : Int) := IntWalk.i64_in _ (by omega)
            have d0 : decide ((0 : Int) < (m : Int) + 1) = true := decide_eq_true (by omega)
            cases x1 : decide (1 ≤ x ∧ x ≤ 90) with
            | false =>
              have X1 := Lib.hid x1
              have R := Lib.hid (show knOk ks = false from KB.out (by rw [KA.out]; have := PP.out; simp at x1 ⊢; omega))
              clear x1
              go_wp2_with (first | ((with_reducible refine gate_box rfl ?_); refine aBx S ?_; clear S; intro g9 w9 z9 S) | ((with_reducible refine gate_alloc rfl ?_); refine aAl S ?_; clear S; intro g9 w9 z9 S) | ((with_reducible refine gate_load rfl ?_); first | refine aLd S ?_ | refine aPt S ?_ | refine aL1 S ?_) | ((with_reducible refine gate_st rfl ?_); (first | refine aS1 S ?_ | refine aSt S ?_ | refine aSp S ?_); clear S; intro w9 S))
              have S0 := S
              refine wp_region_noPanic ?_
              refine wp_region_held_drew (S := Sep _ _ _) (by kernel_rfl) S0.drew (fun _ => ?_)
              replace S := S.drew
              clear S0
              refine tk 0 ?_
              (try simp only [Act.put, List.setIfInBounds_toArray, List.set_cons_zero, List.set_cons_succ])
              refine tk 1 ?_
              (try simp only [Act.put, List.setIfInBounds_toArray, List.set_cons_zero, List.set_cons_succ])
              refine tk 2 ?_
              (try simp only [Act.put, List.setIfInBounds_toArray, List.set_cons_zero, List.set_cons_succ])
              refine tk 3 ?_
              (try simp only [Act.put, List.setIfInBounds_toArray, List.set_cons_zero, List.set_cons_succ])
              refine tk 4 ?_ (hy := by exact yRc (fun w' h => h.frame.cell G1.out))
              (try simp only [Act.put, List.setIfInBounds_toArray, List.set_cons_zero, List.set_cons_succ])
              refine rdy1 5 (fun K hK => ?_)
              go_simp; (skip; go_at_call 61; (with_reducible refine (l6In_e _ x 1 90 X1.out).mono ?_); rintro e w9 ⟨rfl, rfl⟩)
              (first | refine hK.out _ _ (S.sub subA) (fun _ => ?_) | (go_wp2_with fail; refine hK.out _ _ (S.sub subA) (fun _ => ?_)))
              clear hK K
              (try simp only [Act.put, List.setIfInBounds_toArray, List.set_cons_zero, List.set_cons_succ])
              refine tk 6 ?_
              (try simp only [Act.put, List.setIfInBounds_toArray, List.set_cons_zero, List.set_cons_succ])
              refine tk 7 ?_
              (try simp only [Act.put, List.setIfInBounds_toArray, List.set_cons_zero, List.set_cons_succ])
              refine tk 8 ?_
              (try simp only [Act.put, List.setIfInBounds_toArray, List.set_cons_zero, List.set_cons_succ])
              refine tk 9 ?_
              (try simp only [Act.put, List.setIfInBounds_toArray, List.set_cons_zero, List.set_cons_succ])
              refine tk 10 ?_
              (try simp only [Act.put, List.setIfInBounds_toArray, List.set_cons_zero, List.set_cons_succ])
              refine tk 11 ?_
              (try simp only [Act.put, List.setIfInBounds_toArray, List.set_cons_zero, List.set_cons_succ])
              refine tk 12 ?_
              (try simp only [Act.put, List.setIfInBounds_toArray, List.set_cons_zero, List.set_cons_succ])
              refine tk 13 ?_
              (try simp only [Act.put, List.setIfInBounds_toArray, List.set_cons_zero, List.set_cons_succ])
              refine tk 14 ?_
              (try simp only [Act.put, List.setIfInBounds_toArray, List.set_cons_zero, List.set_cons_succ])
              refine tk 15 ?_
              (try simp only [Act.put, List.setIfInBounds_toArray, List.set_cons_zero, List.set_cons_succ])
              refine tk 16 ?_ (hy := by first | exact yRc (fun w' h => h.frame.cell G0.out) | (refine Or.inr ⟨by rfl, ?_⟩; rfl))
              (try simp only [Act.put, List.setIfInBounds_toArray, List.set_cons_zero, List.set_cons_succ])
              refine tk 17 ?_
              (try simp only [Act.put, List.setIfInBounds_toArray, List.set_cons_zero, List.set_cons_succ])
              refine tk 18 ?_
              (try simp only [Act.put, List.setIfInBounds_toArray, List.set_cons_zero, List.set_cons_succ])
              refine tk 19 ?_
              (try simp only [Act.put, List.setIfInBounds_toArray, List.set_cons_zero, List.set_cons_succ])
              refine tk 20 ?_
              (try simp only [Act.put, List.setIfInBounds_toArray, List.set_cons_zero, List.set_cons_succ])
              refine tk 21 ?_ (hy := by first | exact yRc (fun w' h => h.frame.cell G1.out) | (refine Or.inr ⟨by rfl, ?_⟩; rfl))
              (try simp only [Act.put, List.setIfInBounds_toArray, List.set_cons_zero, List.set_cons_succ])
              refine tk 22 ?_
              (try simp only [Act.put, List.setIfInBounds_toArray, List.set_cons_zero, List.set_cons_succ])
              refine tk 23 ?_
              (try simp only [Act.put, List.setIfInBounds_toArray, List.set_cons_zero, List.set_cons_succ])
              refine tk 24 ?_
              (try simp only [Act.put, List.setIfInBounds_toArray, List.set_cons_zero, List.set_cons_succ])
              refine wpAnyH_done (by kernel_rfl) ?_ _
              refine NoPanic.normal ?_
              go_wp2
              go_ret
              exact ⟨ret_bool (by rw [R1.out, R.out]), S.frame⟩
            | true =>
              have X1 := Lib.hid x1
              by_cases x2 : x ≤ p
              · have R := Lib.hid (show knOk ks = false from KB.out (by rw [KA.out]; simp at x1 ⊢; omega))
                have d2 : decide (x ≤ p) = true := decide_eq_true x2
                clear x1 x2
                go_wp2_with (first | ((with_reducible refine gate_box rfl ?_); refine aBx S ?_; clear S; intro g9 w9 z9 S) | ((with_reducible refine gate_alloc rfl ?_); refine aAl S ?_; clear S; intro g9 w9 z9 S) | ((with_reducible refine gate_load rfl ?_); first | refine aLd S ?_ | refine aPt S ?_ | refine aL1 S ?_) | ((with_reducible refine gate_st rfl ?_); (first | refine aS1 S ?_ | refine aSt S ?_ | refine aSp S ?_); clear S; intro w9 S))
                have S0 := S
                refine wp_region_noPanic ?_
                refine wp_region_held_drew (S := Sep _ _ _) (by kernel_rfl) S0.drew (fun _ => ?_)
                replace S := S.drew
                clear S0
                refine tk 0 ?_
                (try simp only [Act.put, List.setIfInBounds_toArray, List.set_cons_zero, List.set_cons_succ])
                refine tk 1 ?_
                (try simp only [Act.put, List.setIfInBounds_toArray, List.set_cons_zero, List.set_cons_succ])
                refine tk 2 ?_
                (try simp only [Act.put, List.setIfInBounds_toArray, List.set_cons_zero, List.set_cons_succ])
                refine tk 3 ?_
                (try simp only [Act.put, List.setIfInBounds_toArray, List.set_cons_zero, List.set_cons_succ])
                refine tk 4 ?_ (hy := by exact yRc (fun w' h => h.frame.cell G1.out))
                (try simp only [Act.put, List.setIfInBounds_toArray, List.set_cons_zero, List.set_cons_succ])
                refine rdy1 5 (fun K hK => ?_)
                go_simp; (skip; go_at_call 61; (with_reducible refine (l6In_e _ x 1 90 X1.out).mono ?_); rintro e w9 ⟨rfl, rfl⟩)
                (first | refine hK.out _ _ (S.sub subA) (fun _ => ?_) | (go_wp2_with fail; refine hK.out _ _ (S.sub subA) (fun _ => ?_)))
                clear hK K
                (try simp only [Act.put, List.setIfInBounds_toArray, List.set_cons_zero, List.set_cons_succ])
                refine tk 6 ?_
                (try simp only [Act.put, List.setIfInBounds_toArray, List.set_cons_zero, List.set_cons_succ])
                refine tk 7 ?_
                (try simp only [Act.put, List.setIfInBounds_toArray, List.set_cons_zero, List.set_cons_succ])
                refine tk 8 ?_
                (try simp only [Act.put, List.setIfInBounds_toArray, List.set_cons_zero, List.set_cons_succ])
                refine tk 9 ?_
                (try simp only [Act.put, List.setIfInBounds_toArray, List.set_cons_zero, List.set_cons_succ])
                refine tk 10 ?_
                (try simp only [Act.put, List.setIfInBounds_toArray, List.set_cons_zero, List.set_cons_succ])
                refine tk 11 ?_
                (try simp only [Act.put, List.setIfInBounds_toArray, List.set_cons_zero, List.set_cons_succ])
                refine tk 12 ?_
                (try simp only [Act.put, List.setIfInBounds_toArray, List.set_cons_zero, List.set_cons_succ])
                refine tk 13 ?_
                (try simp only [Act.put, List.setIfInBounds_toArray, List.set_cons_zero, List.set_cons_succ])
                refine tk 14 ?_
                (try simp only [Act.put, List.setIfInBounds_toArray, List.set_cons_zero, List.set_cons_succ])
                refine tk 15 ?_
                (try simp only [Act.put, List.setIfInBounds_toArray, List.set_cons_zero, List.set_cons_succ])
                refine tk 16 ?_ (hy := by first | exact yRc (fun w' h => h.frame.cell G0.out) | (refine Or.inr ⟨by rfl, ?_⟩; rfl))
                (try simp only [Act.put, List.setIfInBounds_toArray, List.set_cons_zero, List.set_cons_succ])
                refine tk 17 ?_
                (try simp only [Act.put, List.setIfInBounds_toArray, List.set_cons_zero, List.set_cons_succ])
                refine tk 18 ?_
                (try simp only [Act.put, List.setIfInBounds_toArray, List.set_cons_zero, List.set_cons_succ])
                refine tk 19 ?_
                (try simp only [Act.put, List.setIfInBounds_toArray, List.set_cons_zero, List.set_cons_succ])
                refine tk 20 ?_
                (try simp only [Act.put, List.setIfInBounds_toArray, List.set_cons_zero, List.set_cons_succ])
                refine tk 21 ?_ (hy := by first | exact yRc (fun w' h => h.frame.cell G1.out) | (refine Or.inr ⟨by rfl, ?_⟩; rfl))
                (try simp only [Act.put, List.setIfInBounds_toArray, List.set_cons_zero, List.set_cons_succ])
                refine tk 22 ?_
                (try simp only [Act.put, List.setIfInBounds_toArray, List.set_cons_zero, List.set_cons_succ])
                refine tk 23 ?_
                (try simp only [Act.put, List.setIfInBounds_toArray, List.set_cons_zero, List.set_cons_succ])
                refine tk 24 ?_
                (try simp only [Act.put, List.setIfInBounds_toArray, List.set_cons_zero, List.set_cons_succ])
                refine wpAnyH_done (by kernel_rfl) ?_ _
                refine NoPanic.normal ?_
                go_wp2
                go_ret
                exact ⟨ret_bool (by rw [R1.out, R.out]), S.frame⟩
              · have R := Lib.hid (show kAt ks (m + 1) = true by rw [KA.out]; simp at x1 ⊢; omega)
                have d2 : decide (x ≤ p) = false := decide_eq_false x2
                clear x1 x2
                go_wp2_with (first | ((with_reducible refine gate_box rfl ?_); refine aBx S ?_; clear S; intro g9 w9 z9 S) | ((with_reducible refine gate_alloc rfl ?_); refine aAl S ?_; clear S; intro g9 w9 z9 S) | ((with_reducible refine gate_load rfl ?_); first | refine aLd S ?_ | refine aPt S ?_ | refine aL1 S ?_) | ((with_reducible refine gate_st rfl ?_); (first | refine aS1 S ?_ | refine aSt S ?_ | refine aSp S ?_); clear S; intro w9 S))
                have S0 := S
                refine wp_region_noPanic ?_
                refine wp_region_held_drew (S := Sep _ _ _) (by kernel_rfl) S0.drew (fun _ => ?_)
                replace S := S.drew
                clear S0
                refine tk 0 ?_
                (try simp only [Act.put, List.setIfInBounds_toArray, List.set_cons_zero, List.set_cons_succ])
                refine tk 1 ?_
                (try simp only [Act.put, List.setIfInBounds_toArray, List.set_cons_zero, List.set_cons_succ])
                refine tk 2 ?_
                (try simp only [Act.put, List.setIfInBounds_toArray, List.set_cons_zero, List.set_cons_succ])
                refine tk 3 ?_
                (try simp only [Act.put, List.setIfInBounds_toArray, List.set_cons_zero, List.set_cons_succ])
                refine tk 4 ?_ (hy := by exact yRc (fun w' h => h.frame.cell G1.out))
                (try simp only [Act.put, List.setIfInBounds_toArray, List.set_cons_zero, List.set_cons_succ])
                refine rdy1 5 (fun K hK => ?_)
                go_simp; (skip; go_at_call 61; (with_reducible refine (l6In_e _ x 1 90 X1.out).mono ?_); rintro e w9 ⟨rfl, rfl⟩)
                (first | refine hK.out _ _ (S.sub subA) (fun _ => ?_) | (go_wp2_with fail; refine hK.out _ _ (S.sub subA) (fun _ => ?_)))
                clear hK K
                (try simp only [Act.put, List.setIfInBounds_toArray, List.set_cons_zero, List.set_cons_succ])
                refine tk 6 ?_
                (try simp only [Act.put, List.setIfInBounds_toArray, List.set_cons_zero, List.set_cons_succ])
                refine tk 7 ?_
                (try simp only [Act.put, List.setIfInBounds_toArray, List.set_cons_zero, List.set_cons_succ])
                refine tk 8 ?_
                (try simp only [Act.put, List.setIfInBounds_toArray, List.set_cons_zero, List.set_cons_succ])
                refine tk 9 ?_
                (try simp only [Act.put, List.setIfInBounds_toArray, List.set_cons_zero, List.set_cons_succ])
                refine tk 10 ?_
                (try simp only [Act.put, List.setIfInBounds_toArray, List.set_cons_zero, List.set_cons_succ])
                refine tk 11 ?_
                (try simp only [Act.put, List.setIfInBounds_toArray, List.set_cons_zero, List.set_cons_succ])
                refine tk 12 ?_
                (try simp only [Act.put, List.setIfInBounds_toArray, List.set_cons_zero, List.set_cons_succ])
                refine tk 13 ?_
                (try simp only [Act.put, List.setIfInBounds_toArray, List.set_cons_zero, List.set_cons_succ])
                refine tk 14 ?_
                (try simp only [Act.put, List.setIfInBounds_toArray, List.set_cons_zero, List.set_cons_succ])
                refine tk 15 ?_
                (try simp only [Act.put, List.setIfInBounds_toArray, List.set_cons_zero, List.set_cons_succ])
                refine tk 16 ?_ (hy := by first | exact yRc (fun w' h => h.frame.cell G0.out) | (refine Or.inr ⟨by rfl, ?_⟩; rfl))
                (try simp only [Act.put, List.setIfInBounds_toArray, List.set_cons_zero, List.set_cons_succ])
                refine tk 17 ?_
                (try simp only [Act.put, List.setIfInBounds_toArray, List.set_cons_zero, List.set_cons_succ])
                refine tk 18 ?_
                (try simp only [Act.put, List.setIfInBounds_toArray, List.set_cons_zero, List.set_cons_succ])
                refine tk 19 ?_
                (try simp only [Act.put, List.setIfInBounds_toArray, List.set_cons_zero, List.set_cons_succ])
                refine tk 20 ?_
                (try simp only [Act.put, List.setIfInBounds_toArray, List.set_cons_zero, List.set_cons_succ])
                refine tk 21 ?_ (hy := by first | exact yRc (fun w' h => h.frame.cell G1.out) | (refine Or.inr ⟨by rfl, ?_⟩; rfl))
                (try simp only [Act.put, List.setIfInBounds_toArray, List.set_cons_zero, List.set_cons_succ])
                refine tk 22 ?_
                (try simp only [Act.put, List.setIfInBounds_toArray, List.set_cons_zero, List.set_cons_succ])
                refine tk 23 ?_
                (try simp only [Act.put, List.setIfInBounds_toArray, List.set_cons_zero, List.set_cons_succ])
                refine tk 24 ?_
                (try simp only [Act.put, List.setIfInBounds_toArray, List.set_cons_zero, List.set_cons_succ])
                refine wpAnyH_done (by kernel_rfl) ?_ _
                refine NoPanic.normal ?_
                go_wp2
                go_roundw
                case rel => exact ⟨_, by omega, by go_num, range_all_succ HA.out R.out, S⟩
                case measure => simp [intOf]; omega
        · obtain rfl : k = ks.length := by omega
          have R := Lib.hid (show knOk ks = true from HA.out)
          go_wp2_with (first | ((with_reducible refine gate_box rfl ?_); refine aBx S ?_; clear S; intro g9 w9 z9 S) | ((with_reducible refine gate_alloc rfl ?_); refine aAl S ?_; clear S; intro g9 w9 z9 S) | ((with_reducible refine gate_load rfl ?_); first | refine aLd S ?_ | refine aPt S ?_ | refine aL1 S ?_) | ((with_reducible refine gate_st rfl ?_); (first | refine aS1 S ?_ | refine aSt S ?_ | refine aSp S ?_); clear S; intro w9 S))
          go_ret
          exact ⟨ret_bool (by rw [R1.out, R.out]), S.frame⟩
end Go.Proofs.Ytapdcgjccckjeaa
namespace Go.Proofs.Ytapdcgjccckjeaa
set_option maxRecDepth 100000
set_option linter.unusedVariables false
set_option linter.unusedSimpArgs false
open Go.RowKit
theorem ChainOk_r (w : World) (c : Ch) (c1 : List Value) (h1 : tCh.rd w c c1) {r : Bool} (h : okCh c = r) : Calls Try.prog 19 #[.agg c1.toArray] w (Ret (.bool r) w) := h ▸ ChainOk_c w c c1 h1
theorem sChainOk_r (w : World) (c : Ch) (c1 : List Value) (h1 : tCh.rd w c c1) {r : Bool} (h : okCh c = r) : Calls Try.prog 33 #[.agg c1.toArray] w (Ret (.bool r) w) := h ▸ sChainOk_c w c c1 h1
theorem okCh_parts {c : Ch} (h : okCh c = true) : (1 ≤ c.id ∧ c.id ≤ 2) ∧ okBk c.bank = true ∧ okSt c.st = true ∧ c.past.length ≤ 90 ∧ c.past.all okSt = true ∧ knOk c.knows = true := by
  unfold okCh at h
  simp only [Bool.and_eq_true, decide_eq_true_eq] at h
  exact ⟨h.1, h.2.1, h.2.2.1, h.2.2.2.1, h.2.2.2.2.1, h.2.2.2.2.2⟩
theorem tSt_rows {w : World} {s : St} {v1 v2 v3 v4 : Value} (h : tSt.rd w s [.int .i64 s.way, .int .i64 s.vsn, .int .i64 s.want, v1, v2, v3, v4]) : tPk.row w v1 s.sent ∧ tBool.row w v2 s.live ∧ tBool.row w v3 s.back ∧ tInt.row w v4 s.got ∧ (I64 s.way ∧ I64 s.vsn ∧ I64 s.want) := by
  obtain ⟨u1, u2, u3, u4, e, h1, h2, h3, h4, h5⟩ := h
  simp only [List.cons.injEq, and_true, true_and] at e
  obtain ⟨rfl, rfl, rfl, rfl⟩ := e
  exact ⟨h1, h2, h3, h4, h5⟩
theorem tBk_rows {w : World} {b : Bk} {v1 v2 : Value} (h : tBk.rd w b [v1, v2, .int .i64 b.locked]) : tInt.row w v1 b.own ∧ tInt.row w v2 b.notes ∧ I64 b.locked := by
  obtain ⟨u1, u2, e, h1, h2, h3⟩ := h
  simp only [List.cons.injEq, and_true] at e
  obtain ⟨rfl, rfl⟩ := e
  exact ⟨h1, h2, h3⟩
def nextH (c : Ch) : Int := if okCh c = true then (if c.past.length = 90 then 0 else (c.past.length : Int) + 1) else 0
def nextS (c : Ch) : Int := if okCh c = true then (if c.st.sent.length = 8 then 0 else (c.st.sent.length : Int) + 1) else 0
def RetII (a b : Int) (w : World) : Ending → World → Prop := fun e w' => e = .returned (.tuple #[.int .i64 a, .int .i64 b]) ∧ Fr w w'
theorem ret_ii {a b c d : Int} (h : a = c) (k : b = d) : Ending.returned (.tuple #[.int .i64 a, .int .i64 b]) = .returned (.tuple #[.int .i64 c, .int .i64 d]) := by rw [h, k]
set_option maxHeartbeats 3200000 in
theorem ChainNext_c (w : World) (c : Ch) (c1 : List Value) (h1 : tCh.rd w c c1) : Calls Try.prog 36 #[.agg c1.toArray] w (RetII (nextH c) (nextS c) w) := by
  have FIN := Lib.hid (fun (W : World) (f : Fr w W) => tCh.fr f h1)
  have S := Sep.start w
  cases o1 : okCh c with
  | false =>
    have H := Lib.hid (show nextH c = 0 by unfold nextH; rw [o1]; rfl)
    have T := Lib.hid (show nextS c = 0 by unfold nextS; rw [o1]; rfl)
    have LN := Lib.hid (show c1.length = 13 from tCh.len h1)
    have O1 := Lib.hid o1
    clear o1 h1
    go_enter Try.func36, Try.ntmps36
    go_wp2_with (first
      | (go_at_call 19; (with_reducible refine (ChainOk_r _ c _ (FIN.out _ S.frame) O1.out).mono ?_); rintro e w9 ⟨rfl, f9⟩; replace S := S.fr f9; clear f9)
      | ((with_reducible refine gate_box rfl ?_); refine aBx S ?_; clear S; intro g9 w9 z9 S) | ((with_reducible refine gate_alloc rfl ?_); refine aAl S ?_; clear S; intro g9 w9 z9 S) | ((with_reducible refine gate_load rfl ?_); first | refine aLd S ?_ | refine aPt S ?_ | refine aL1 S ?_) | ((with_reducible refine gate_st rfl ?_); (first | refine aS1 S ?_ | refine aSt S ?_ | refine aSp S ?_); clear S; intro w9 S))
    refine bodyPost_ret (results_tmp2 rfl _ _ _) rfl ?_
    exact ⟨ret_ii H.out.symm T.out.symm, S.frame⟩
  | true =>
  obtain ⟨b1, b2, s1, s2, s3, s4, v1, v2, rfl, h11, h12, h13, h14, h15⟩ := h1
  obtain ⟨g1, _⟩ := tSt_rows h12
  obtain ⟨A1, n1, rfl⟩ := h13.val
  obtain ⟨A3, n3, rfl⟩ := g1.val
  obtain ⟨p1, p2, p3, p4, p5, p6⟩ := okCh_parts o1
  have p7 := (okSt_len p3).1
  have O1 := Lib.hid o1
  clear p5 p6 h11 h12 h13 h14 h15 g1
  have x1 : IntKind.i64.wrap ((c.past.length : Int) + 1) = (c.past.length : Int) + 1 := IntWalk.i64_in _ (by omega)
  have x2 : IntKind.i64.wrap ((c.st.sent.length : Int) + 1) = (c.st.sent.length : Int) + 1 := IntWalk.i64_in _ (by omega)
  by_cases e1 : c.past.length = 90
  all_goals
    by_cases e2 : c.st.sent.length = 8
    all_goals
      first
        | (have d1 : decide (90 < (c.past.length : Int) + 1) = true := decide_eq_true (by omega); have H := Lib.hid (show nextH c = 0 by unfold nextH; rw [o1, if_pos rfl, if_pos e1]))
        | (have d1 : decide (90 < (c.past.length : Int) + 1) = false := decide_eq_false (by omega); have H := Lib.hid (show nextH c = (c.past.length : Int) + 1 by unfold nextH; rw [o1, if_pos rfl, if_neg e1]))
      first
        | (have d2 : decide (8 < (c.st.sent.length : Int) + 1) = true := decide_eq_true (by omega); have T := Lib.hid (show nextS c = 0 by unfold nextS; rw [o1, if_pos rfl, if_pos e2]))
        | (have d2 : decide (8 < (c.st.sent.length : Int) + 1) = false := decide_eq_false (by omega); have T := Lib.hid (show nextS c = (c.st.sent.length : Int) + 1 by unfold nextS; rw [o1, if_pos rfl, if_neg e2]))
      clear o1 e1 e2
      go_enter Try.func36, Try.ntmps36
      go_wp2_with (first
        | (go_at_call 19; (with_reducible refine (ChainOk_r _ c _ (FIN.out _ S.frame) O1.out).mono ?_); rintro e w9 ⟨rfl, f9⟩; replace S := S.fr f9; clear f9)
        | ((with_reducible refine gate_box rfl ?_); refine aBx S ?_; clear S; intro g9 w9 z9 S) | ((with_reducible refine gate_alloc rfl ?_); refine aAl S ?_; clear S; intro g9 w9 z9 S) | ((with_reducible refine gate_load rfl ?_); first | refine aLd S ?_ | refine aPt S ?_ | refine aL1 S ?_) | ((with_reducible refine gate_st rfl ?_); (first | refine aS1 S ?_ | refine aSt S ?_ | refine aSp S ?_); clear S; intro w9 S))
      have S0 := S
      refine wp_region_noPanic ?_
      refine wp_region_held_drew (S := Sep _ _ _) (by kernel_rfl) S0.drew (fun _ => ?_)
      replace S := S.drew
      clear S0
      refine tk 0 ?_
      (try simp only [Act.put, List.setIfInBounds_toArray, List.set_cons_zero, List.set_cons_succ])
      refine tk 1 ?_
      (try simp only [Act.put, List.setIfInBounds_toArray, List.set_cons_zero, List.set_cons_succ])
      refine tk 4 ?_
      (try simp only [Act.put, List.setIfInBounds_toArray, List.set_cons_zero, List.set_cons_succ])
      refine tk 5 ?_
      (try simp only [Act.put, List.setIfInBounds_toArray, List.set_cons_zero, List.set_cons_succ])
      refine tk 6 ?_
      (try simp only [Act.put, List.setIfInBounds_toArray, List.set_cons_zero, List.set_cons_succ])
      refine rdys [2, 7] ?_
      refine rdc 2 (fun K hK => ?_) ?_
      · go_simp
        (first | refine hK.out _ _ (S.sub subA) (fun _ => ?_) | (go_wp2_with fail; refine hK.out _ _ (S.sub subA) (fun _ => ?_)))
        clear hK K
        (try simp only [Act.put, List.setIfInBounds_toArray, List.set_cons_zero, List.set_cons_succ])
        refine tk 3 ?_
        (try simp only [Act.put, List.setIfInBounds_toArray, List.set_cons_zero, List.set_cons_succ])
        refine tk 9 ?_
        (try simp only [Act.put, List.setIfInBounds_toArray, List.set_cons_zero, List.set_cons_succ])
        refine rdy1 7 (fun K hK => ?_)
        go_simp
        (first | refine hK.out _ _ (S.sub subA) (fun _ => ?_) | (go_wp2_with fail; refine hK.out _ _ (S.sub subA) (fun _ => ?_)))
        clear hK K
        (try simp only [Act.put, List.setIfInBounds_toArray, List.set_cons_zero, List.set_cons_succ])
        refine tk 8 ?_
        (try simp only [Act.put, List.setIfInBounds_toArray, List.set_cons_zero, List.set_cons_succ])
        refine tk 10 ?_
        (try simp only [Act.put, List.setIfInBounds_toArray, List.set_cons_zero, List.set_cons_succ])
        refine wpAnyH_done (by kernel_rfl) ?_ _
        refine NoPanic.normal ?_
        go_wp2
        refine bodyPost_ret (results_tmp2 rfl _ _ _) rfl ?_
        exact ⟨ret_ii H.out.symm T.out.symm, S.frame⟩
      refine rdc 7 (fun K hK => ?_) AllReadyH.nil
      go_simp
      (first | refine hK.out _ _ (S.sub subA) (fun _ => ?_) | (go_wp2_with fail; refine hK.out _ _ (S.sub subA) (fun _ => ?_)))
      clear hK K
      (try simp only [Act.put, List.setIfInBounds_toArray, List.set_cons_zero, List.set_cons_succ])
      refine tk 8 ?_
      (try simp only [Act.put, List.setIfInBounds_toArray, List.set_cons_zero, List.set_cons_succ])
      refine rdy1 2 (fun K hK => ?_)
      go_simp
      (first | refine hK.out _ _ (S.sub subA) (fun _ => ?_) | (go_wp2_with fail; refine hK.out _ _ (S.sub subA) (fun _ => ?_)))
      clear hK K
      (try simp only [Act.put, List.setIfInBounds_toArray, List.set_cons_zero, List.set_cons_succ])
      refine tk 3 ?_
      (try simp only [Act.put, List.setIfInBounds_toArray, List.set_cons_zero, List.set_cons_succ])
      refine tk 9 ?_
      (try simp only [Act.put, List.setIfInBounds_toArray, List.set_cons_zero, List.set_cons_succ])
      refine tk 10 ?_
      (try simp only [Act.put, List.setIfInBounds_toArray, List.set_cons_zero, List.set_cons_succ])
      refine wpAnyH_done (by kernel_rfl) ?_ _
      refine NoPanic.normal ?_
      go_wp2
      refine bodyPost_ret (results_tmp2 rfl _ _ _) rfl ?_
      exact ⟨ret_ii H.out.symm T.out.symm, S.frame⟩
set_option maxHeartbeats 3200000 in
theorem sChainNext_c (w : World) (c : Ch) (c1 : List Value) (h1 : tCh.rd w c c1) : Calls Try.prog 35 #[.agg c1.toArray] w (RetII (nextH c) (nextS c) w) := by
  have FIN := Lib.hid (fun (W : World) (f : Fr w W) => tCh.fr f h1)
  have S := Sep.start w
  cases o1 : okCh c with
  | false =>
    have H := Lib.hid (show nextH c = 0 by unfold nextH; rw [o1]; rfl)
    have T := Lib.hid (show nextS c = 0 by unfold nextS; rw [o1]; rfl)
    have LN := Lib.hid (show c1.length = 13 from tCh.len h1)
    have O1 := Lib.hid o1
    clear o1 h1
    go_enter Try.func35, Try.ntmps35
    go_wp2_with (first
      | (go_at_call 33; (with_reducible refine (sChainOk_r _ c _ (FIN.out _ S.frame) O1.out).mono ?_); rintro e w9 ⟨rfl, f9⟩; replace S := S.fr f9; clear f9)
      | ((with_reducible refine gate_box rfl ?_); refine aBx S ?_; clear S; intro g9 w9 z9 S) | ((with_reducible refine gate_alloc rfl ?_); refine aAl S ?_; clear S; intro g9 w9 z9 S) | ((with_reducible refine gate_load rfl ?_); first | refine aLd S ?_ | refine aPt S ?_ | refine aL1 S ?_) | ((with_reducible refine gate_st rfl ?_); (first | refine aS1 S ?_ | refine aSt S ?_ | refine aSp S ?_); clear S; intro w9 S))
    refine bodyPost_ret (results_tmp2 rfl _ _ _) rfl ?_
    exact ⟨ret_ii H.out.symm T.out.symm, S.frame⟩
  | true =>
  obtain ⟨b1, b2, s1, s2, s3, s4, v1, v2, rfl, h11, h12, h13, h14, h15⟩ := h1
  obtain ⟨g1, _⟩ := tSt_rows h12
  obtain ⟨A1, n1, rfl⟩ := h13.val
  obtain ⟨A3, n3, rfl⟩ := g1.val
  obtain ⟨p1, p2, p3, p4, p5, p6⟩ := okCh_parts o1
  have p7 := (okSt_len p3).1
  have O1 := Lib.hid o1
  clear p5 p6 h11 h12 h13 h14 h15 g1
  have x1 : IntKind.i64.wrap ((c.past.length : Int) + 1) = (c.past.length : Int) + 1 := IntWalk.i64_in _ (by omega)
  have x2 : IntKind.i64.wrap ((c.st.sent.length : Int) + 1) = (c.st.sent.length : Int) + 1 := IntWalk.i64_in _ (by omega)
  by_cases e1 : c.past.length = 90
  all_goals
    by_cases e2 : c.st.sent.length = 8
    all_goals
      first
        | (have d1 : decide (90 < (c.past.length : Int) + 1) = true := decide_eq_true (by omega); have H := Lib.hid (show nextH c = 0 by unfold nextH; rw [o1, if_pos rfl, if_pos e1]))
        | (have d1 : decide (90 < (c.past.length : Int) + 1) = false := decide_eq_false (by omega); have H := Lib.hid (show nextH c = (c.past.length : Int) + 1 by unfold nextH; rw [o1, if_pos rfl, if_neg e1]))
      first
        | (have d2 : decide (8 < (c.st.sent.length : Int) + 1) = true := decide_eq_true (by omega); have T := Lib.hid (show nextS c = 0 by unfold nextS; rw [o1, if_pos rfl, if_pos e2]))
        | (have d2 : decide (8 < (c.st.sent.length : Int) + 1) = false := decide_eq_false (by omega); have T := Lib.hid (show nextS c = (c.st.sent.length : Int) + 1 by unfold nextS; rw [o1, if_pos rfl, if_neg e2]))
      clear o1 e1 e2
      go_enter Try.func35, Try.ntmps35
      go_wp2_with (first
        | (go_at_call 33; (with_reducible refine (sChainOk_r _ c _ (FIN.out _ S.frame) O1.out).mono ?_); rintro e w9 ⟨rfl, f9⟩; replace S := S.fr f9; clear f9)
        | ((with_reducible refine gate_box rfl ?_); refine aBx S ?_; clear S; intro g9 w9 z9 S) | ((with_reducible refine gate_alloc rfl ?_); refine aAl S ?_; clear S; intro g9 w9 z9 S) | ((with_reducible refine gate_load rfl ?_); first | refine aLd S ?_ | refine aPt S ?_ | refine aL1 S ?_) | ((with_reducible refine gate_st rfl ?_); (first | refine aS1 S ?_ | refine aSt S ?_ | refine aSp S ?_); clear S; intro w9 S))
      refine bodyPost_ret (results_tmp2 rfl _ _ _) rfl ?_
      exact ⟨ret_ii H.out.symm T.out.symm, S.frame⟩
end Go.Proofs.Ytapdcgjccckjeaa
namespace Go.Proofs.Ytapdcgjccckjeaa
set_option maxRecDepth 100000
set_option linter.unusedVariables false
set_option linter.unusedSimpArgs false
open Go.RowKit
/-- Marks, the last height first. -/
def mks (w : World) : Value → List St → List Nat → Prop
  | p, [], F => p = .pointer none ∧ F = []
  | p, s :: ss, F => ∃ g v1 v2 v3 v4 p' F1 F2, p = .pointer (some ⟨g, 0, none⟩) ∧ F = g :: (F1 ++ F2) ∧ Box w g 138 #[.int .i64 s.way, .int .i64 s.vsn, .int .i64 s.want, v1, v2, v3, v4, p'] ∧ tSt.own w s [.int .i64 s.way, .int .i64 s.vsn, .int .i64 s.want, v1, v2, v3, v4] F1 ∧ mks w p' ss F2
theorem mks_lt {w : World} : ∀ {ss : List St} {p : Value} {F : List Nat}, mks w p ss F → ∀ g ∈ F, g < w.heap.size
  | [], _, _, h, g, hg => by rw [h.2] at hg; cases hg
  | s :: ss, _, _, h, g, hg => by
    obtain ⟨g0, v1, v2, v3, v4, p', F1, F2, rfl, rfl, h1, h2, h3⟩ := h
    rcases List.mem_cons.1 hg with rfl | hg
    · exact h1.lt
    rcases List.mem_append.1 hg with hg | hg
    · exact tSt.own_lt h2 g hg
    · exact mks_lt h3 g hg
theorem mks_keep {w w' : World} : ∀ {ss : List St} {p : Value} {F : List Nat}, mks w p ss F → (∀ g ∈ F, w'.heap[g]? = w.heap[g]?) → mks w' p ss F
  | [], _, _, h, _ => h
  | s :: ss, _, _, h, hk => by
    obtain ⟨g0, v1, v2, v3, v4, p', F1, F2, rfl, rfl, h1, h2, h3⟩ := h
    exact ⟨g0, v1, v2, v3, v4, p', F1, F2, rfl, rfl, ⟨(hk g0 (by simp)).trans h1.blk⟩, tSt.keep h2 (fun g hg => hk g (by simp [hg])), mks_keep h3 (fun g hg => hk g (by simp [hg]))⟩
def aMks (p : Value) (ss : List St) (F : List Nat) : Asrt where
  fp := F
  ok := fun w => mks w p ss F
  lt := fun h => mks_lt h
  keep := fun h hk => mks_keep h hk
theorem mks_one {w : World} {p : Value} {ss : List St} {F : List Nat} (h : mks w p ss F) : p.oneCell' = true := by
  cases ss with
  | nil => rw [h.1]; rfl
  | cons s ss =>
    obtain ⟨g0, v1, v2, v3, v4, p', F1, F2, rfl, _⟩ := h
    rfl
/-- Is it a pointer. -/
theorem mks_ptr {w : World} {p : Value} {ss : List St} {F : List Nat} (h : mks w p ss F) : ∃ a, p = .pointer a := by
  cases ss with
  | nil => exact ⟨_, h.1⟩
  | cons s ss =>
    obtain ⟨g0, v1, v2, v3, v4, p', F1, F2, rfl, _⟩ := h
    exact ⟨_, rfl⟩
section
variable {F0 : List Nat} {w0 w : World} {L : List Asrt} {p : Value} {F : List Nat}
theorem Sep.mksNil (S : Sep F0 w0 (aMks p [] F :: L) w) : p = .pointer none ∧ Sep F0 w0 L w := ⟨(S.ok (aMks p [] F) (by simp)).1, S.drop⟩
theorem Sep.mksNew (S : Sep F0 w0 L w) : Sep F0 w0 (aMks (.pointer none) [] [] :: L) w := S.new (aMks (.pointer none) [] []) ⟨rfl, rfl⟩ (by simp [aMks]) (fun q hq => by cases hq) (Fr.refl _)
theorem Sep.mksUncons {s : St} {ss : List St} (S : Sep F0 w0 (aMks p (s :: ss) F :: L) w) : ∃ g v1 v2 v3 v4 a F1 F2, p = .pointer (some ⟨g, 0, none⟩) ∧ F = g :: (F1 ++ F2) ∧
    Sep F0 w0 (aBox g 138 8 [.int .i64 s.way, .int .i64 s.vsn, .int .i64 s.want, v1, v2, v3, v4, .pointer a] :: aOwn tSt s [.int .i64 s.way, .int .i64 s.vsn, .int .i64 s.want, v1, v2, v3, v4] F1 :: aMks (.pointer a) ss F2 :: L) w := by
  have h := S.ok (aMks p (s :: ss) F) (by simp)
  obtain ⟨g0, v1, v2, v3, v4, p', F1, F2, rfl, rfl, h1, h2, h3⟩ := h
  obtain ⟨a, rfl⟩ := mks_ptr h3
  refine ⟨g0, v1, v2, v3, v4, a, F1, F2, rfl, rfl, S.conv [aBox g0 138 8 [.int .i64 s.way, .int .i64 s.vsn, .int .i64 s.want, v1, v2, v3, v4, .pointer a], aOwn tSt s _ F1, aMks (.pointer a) ss F2] (by simp [fps, aBox, aOwn, aMks]) ?_⟩
  intro x hx
  simp only [List.mem_cons, List.not_mem_nil, or_false] at hx
  rcases hx with rfl | rfl | rfl
  · exact ⟨h1, rfl⟩
  · exact h2
  · exact h3
theorem Sep.mksCons {s : St} {ss : List St} {g : Nat} {v1 v2 v3 v4 p' : Value} {F1 F2 : List Nat} (S : Sep F0 w0 (aBox g 138 8 [.int .i64 s.way, .int .i64 s.vsn, .int .i64 s.want, v1, v2, v3, v4, p'] :: aOwn tSt s [.int .i64 s.way, .int .i64 s.vsn, .int .i64 s.want, v1, v2, v3, v4] F1 :: aMks p' ss F2 :: L) w) :
    Sep F0 w0 (aMks (.pointer (some ⟨g, 0, none⟩)) (s :: ss) (g :: (F1 ++ F2)) :: L) w := by
  refine Sep.join [aBox g 138 8 [.int .i64 s.way, .int .i64 s.vsn, .int .i64 s.want, v1, v2, v3, v4, p'], aOwn tSt s _ F1, aMks p' ss F2] S _ (by simp [fps, aBox, aOwn, aMks]) fun h => ?_
  exact ⟨g, v1, v2, v3, v4, p', F1, F2, rfl, rfl, (h (aBox g 138 8 [.int .i64 s.way, .int .i64 s.vsn, .int .i64 s.want, v1, v2, v3, v4, p']) (by simp)).1, h (aOwn tSt s _ F1) (by simp), h (aMks p' ss F2) (by simp)⟩
end
/-- A chain that is being worked on, at block g. -/
def aLnk (g : Nat) (c : Ch) (F : List Nat) : Asrt where
  fp := F
  ok := fun w => ∃ x1 x2 v1 v2 v3 v4 p u2 Fb Fs Fm Fk, F = g :: (Fb ++ (Fs ++ (Fm ++ Fk))) ∧ Box w g 136 #[x1, x2, .int .i64 c.bank.locked, .int .i64 c.id, .int .i64 c.st.way, .int .i64 c.st.vsn, .int .i64 c.st.want, v1, v2, v3, v4, p, .int .i64 (c.past.length : Int), u2] ∧
    tBk.own w c.bank [x1, x2, .int .i64 c.bank.locked] Fb ∧ tSt.own w c.st [.int .i64 c.st.way, .int .i64 c.st.vsn, .int .i64 c.st.want, v1, v2, v3, v4] Fs ∧ mks w p c.past.reverse Fm ∧ tInt.orow 3 w u2 c.knows Fk ∧ I64 c.id
  lt := by
    rintro w ⟨x1, x2, v1, v2, v3, v4, p, u2, Fb, Fs, Fm, Fk, rfl, h1, h2, h3, h4, h5, _⟩ g hg
    rcases List.mem_cons.1 hg with rfl | hg
    · exact h1.lt
    rcases List.mem_append.1 hg with hg | hg
    · exact tBk.own_lt h2 g hg
    rcases List.mem_append.1 hg with hg | hg
    · exact tSt.own_lt h3 g hg
    rcases List.mem_append.1 hg with hg | hg
    · exact mks_lt h4 g hg
    · exact h5.lt g hg
  keep := by
    rintro w w' ⟨x1, x2, v1, v2, v3, v4, p, u2, Fb, Fs, Fm, Fk, rfl, h1, h2, h3, h4, h5, h6⟩ hk
    exact ⟨x1, x2, v1, v2, v3, v4, p, u2, Fb, Fs, Fm, Fk, rfl, ⟨(hk g (by simp)).trans h1.blk⟩, tBk.keep h2 (fun q hq => hk q (by simp [hq])), tSt.keep h3 (fun q hq => hk q (by simp [hq])), mks_keep h4 (fun q hq => hk q (by simp [hq])), h5.keep (fun q hq => hk q (by simp [hq])), h6⟩
section
variable {F0 : List Nat} {w0 w : World} {L : List Asrt} {g : Nat} {c : Ch} {F : List Nat}
theorem Sep.openLnk (S : Sep F0 w0 (aLnk g c F :: L) w) : ∃ A1 m1 A2 m2 B1 n1 B2 n2 B3 n3 B4 n4 p A5 m5 Y1 Y2 Z1 Z2 Z3 Z4 M1 K1, I64 c.bank.locked ∧ (I64 c.st.way ∧ I64 c.st.vsn ∧ I64 c.st.want) ∧ I64 c.id ∧
    Sep F0 w0 (aBox g 136 14 [.slice A1 c.bank.own.length m1, .slice A2 c.bank.notes.length m2, .int .i64 c.bank.locked, .int .i64 c.id, .int .i64 c.st.way, .int .i64 c.st.vsn, .int .i64 c.st.want, .slice B1 c.st.sent.length n1, .slice B2 c.st.live.length n2, .slice B3 c.st.back.length n3, .slice B4 c.st.got.length n4, .pointer p, .int .i64 (c.past.length : Int), .slice A5 c.knows.length m5] ::
      aRow tInt 3 c.bank.own (.slice A1 c.bank.own.length m1) Y1 :: aRow tInt 3 c.bank.notes (.slice A2 c.bank.notes.length m2) Y2 :: aRow tPk 88 c.st.sent (.slice B1 c.st.sent.length n1) Z1 :: aRow tBool 4 c.st.live (.slice B2 c.st.live.length n2) Z2 :: aRow tBool 4 c.st.back (.slice B3 c.st.back.length n3) Z3 :: aRow tInt 3 c.st.got (.slice B4 c.st.got.length n4) Z4 :: aMks (.pointer p) c.past.reverse M1 :: aRow tInt 3 c.knows (.slice A5 c.knows.length m5) K1 :: L) w := by
  have h := S.ok (aLnk g c F) (by simp)
  obtain ⟨x1, x2, v1, v2, v3, v4, p, u2, Fb, Fs, Fm, Fk, hF, h1, h2, h3, h4, h5, h6⟩ := h
  obtain ⟨d1, d2, Y1, Y2, e1, rfl, r1, r2, r3⟩ := h2
  simp only [List.cons.injEq, and_true] at e1
  obtain ⟨rfl, rfl⟩ := e1
  obtain ⟨t1, t2, t3, t4, Z1, Z2, Z3, Z4, e2, rfl, s1, s2, s3, s4, s5⟩ := h3
  simp only [List.cons.injEq, and_true, true_and] at e2
  obtain ⟨rfl, rfl, rfl, rfl⟩ := e2
  obtain ⟨A1, m1, rfl⟩ := r1.row.val
  obtain ⟨A2, m2, rfl⟩ := r2.row.val
  obtain ⟨B1, n1, rfl⟩ := s1.row.val
  obtain ⟨B2, n2, rfl⟩ := s2.row.val
  obtain ⟨B3, n3, rfl⟩ := s3.row.val
  obtain ⟨B4, n4, rfl⟩ := s4.row.val
  obtain ⟨A5, m5, rfl⟩ := h5.row.val
  obtain ⟨a, rfl⟩ := mks_ptr h4
  refine ⟨A1, m1, A2, m2, B1, n1, B2, n2, B3, n3, B4, n4, a, A5, m5, Y1, Y2, Z1, Z2, Z3, Z4, Fm, Fk, r3, s5, h6, S.conv [aBox g 136 14 _, aRow tInt 3 c.bank.own _ Y1, aRow tInt 3 c.bank.notes _ Y2, aRow tPk 88 c.st.sent _ Z1, aRow tBool 4 c.st.live _ Z2, aRow tBool 4 c.st.back _ Z3, aRow tInt 3 c.st.got _ Z4, aMks _ c.past.reverse Fm, aRow tInt 3 c.knows _ Fk] (by simp [fps, aBox, aRow, aMks, aLnk, hF]) ?_⟩
  intro x hx
  simp only [List.mem_cons, List.not_mem_nil, or_false] at hx
  rcases hx with rfl | rfl | rfl | rfl | rfl | rfl | rfl | rfl | rfl
  · exact ⟨h1, rfl⟩
  · exact r1
  · exact r2
  · exact s1
  · exact s2
  · exact s3
  · exact s4
  · exact h4
  · exact h5
end
/-- A link put together out of its parts, wherever they stand. -/
theorem Sep.allLnk {F0 : List Nat} {w0 w : World} {L L1 L2 L3 L4 L5 L6 L7 L8 L9 : List Asrt} {x1 x2 v1 v2 v3 v4 p u2 : Value} {Y1 Y2 Z1 Z2 Z3 Z4 M1 K1 : List Nat} {g : Nat} {nn : Int} {ms : List St} (c : Ch) (S : Sep F0 w0 L w) (I9 : I64 c.bank.locked) (J9 : I64 c.st.way ∧ I64 c.st.vsn ∧ I64 c.st.want) (h15 : I64 c.id) (p1 : Del L (aRow tInt 3 c.knows u2 K1) L1 := by (repeat (first | with_reducible exact Del.head _ _ | with_reducible apply Del.tail)) <;> fail) (p2 : Del L1 (aMks p ms M1) L2 := by (repeat (first | with_reducible exact Del.head _ _ | with_reducible apply Del.tail)) <;> fail) (p3 : Del L2 (aRow tInt 3 c.st.got v4 Z4) L3 := by (repeat (first | with_reducible exact Del.head _ _ | with_reducible apply Del.tail)) <;> fail) (p4 : Del L3 (aRow tBool 4 c.st.back v3 Z3) L4 := by (repeat (first | with_reducible exact Del.head _ _ | with_reducible apply Del.tail)) <;> fail) (p5 : Del L4 (aRow tBool 4 c.st.live v2 Z2) L5 := by (repeat (first | with_reducible exact Del.head _ _ | with_reducible apply Del.tail)) <;> fail) (p6 : Del L5 (aRow tPk 88 c.st.sent v1 Z1) L6 := by (repeat (first | with_reducible exact Del.head _ _ | with_reducible apply Del.tail)) <;> fail) (p7 : Del L6 (aRow tInt 3 c.bank.notes x2 Y2) L7 := by (repeat (first | with_reducible exact Del.head _ _ | with_reducible apply Del.tail)) <;> fail) (p8 : Del L7 (aRow tInt 3 c.bank.own x1 Y1) L8 := by (repeat (first | with_reducible exact Del.head _ _ | with_reducible apply Del.tail)) <;> fail) (p9 : Del L8 (aBox g 136 14 [x1, x2, .int .i64 c.bank.locked, .int .i64 c.id, .int .i64 c.st.way, .int .i64 c.st.vsn, .int .i64 c.st.want, v1, v2, v3, v4, p, .int .i64 nn, u2]) L9 := by (repeat (first | with_reducible exact Del.head _ _ | with_reducible apply Del.tail)) <;> fail) (hnn : nn = (c.past.length : Int) := by first | exact rfl | simp) (hms : ms = c.past.reverse := by first | exact rfl | simp) :
    Sep F0 w0 (aLnk g c (g :: ((Y1 ++ Y2) ++ ((Z1 ++ (Z2 ++ (Z3 ++ Z4))) ++ (M1 ++ K1)))) :: L9) w := by
  subst hnn
  subst hms
  have S1 := ((((((((S.pull p1).pull (.tail _ p2)).pull (.tail _ (.tail _ p3))).pull (.tail _ (.tail _ (.tail _ p4)))).pull (.tail _ (.tail _ (.tail _ (.tail _ p5))))).pull (.tail _ (.tail _ (.tail _ (.tail _ (.tail _ p6)))))).pull (.tail _ (.tail _ (.tail _ (.tail _ (.tail _ (.tail _ p7))))))).pull (.tail _ (.tail _ (.tail _ (.tail _ (.tail _ (.tail _ (.tail _ p8)))))))).pull (.tail _ (.tail _ (.tail _ (.tail _ (.tail _ (.tail _ (.tail _ (.tail _ p9))))))))
  refine Sep.join [aBox g 136 14 [x1, x2, .int .i64 c.bank.locked, .int .i64 c.id, .int .i64 c.st.way, .int .i64 c.st.vsn, .int .i64 c.st.want, v1, v2, v3, v4, p, .int .i64 (c.past.length : Int), u2], aRow tInt 3 c.bank.own x1 Y1, aRow tInt 3 c.bank.notes x2 Y2, aRow tPk 88 c.st.sent v1 Z1, aRow tBool 4 c.st.live v2 Z2, aRow tBool 4 c.st.back v3 Z3, aRow tInt 3 c.st.got v4 Z4, aMks p c.past.reverse M1, aRow tInt 3 c.knows u2 K1] S1 _ (by simp [fps, aBox, aRow, aMks, aLnk]) fun h => ?_
  exact ⟨x1, x2, v1, v2, v3, v4, p, u2, Y1 ++ Y2, Z1 ++ (Z2 ++ (Z3 ++ Z4)), M1, K1, rfl, (h (aBox g 136 14 [x1, x2, .int .i64 c.bank.locked, .int .i64 c.id, .int .i64 c.st.way, .int .i64 c.st.vsn, .int .i64 c.st.want, v1, v2, v3, v4, p, .int .i64 (c.past.length : Int), u2]) (by simp)).1, ⟨x1, x2, Y1, Y2, rfl, rfl, h (aRow tInt 3 c.bank.own x1 Y1) (by simp), h (aRow tInt 3 c.bank.notes x2 Y2) (by simp), I9⟩, ⟨v1, v2, v3, v4, Z1, Z2, Z3, Z4, rfl, rfl, h (aRow tPk 88 c.st.sent v1 Z1) (by simp), h (aRow tBool 4 c.st.live v2 Z2) (by simp), h (aRow tBool 4 c.st.back v3 Z3) (by simp), h (aRow tInt 3 c.st.got v4 Z4) (by simp), J9⟩, h (aMks p c.past.reverse M1) (by simp), h (aRow tInt 3 c.knows u2 K1) (by simp), h15⟩
end Go.Proofs.Ytapdcgjccckjeaa
namespace Go.Proofs.Ytapdcgjccckjeaa
set_option maxRecDepth 100000
set_option linter.unusedVariables false
set_option linter.unusedSimpArgs false
open Go.RowKit

def newBk : Bk := ⟨[10, 10, 10], [0, 0, 0], 0⟩
set_option maxHeartbeats 800000 in
theorem sBankNew_c (w : World) : Calls Try.prog 62 #[] w (RetOwn tBk newBk w) := by
  have f := Fr.refl w
  go_enter Try.func62, Try.ntmps62
  go_wp2_with (first
    | ((with_reducible refine gate_dst (N := 0) rfl ?_); refine wpList_alloc rfl _ rfl _ (zero26 _) #[.slice none 0 0, .slice none 0 0, .int .i64 0] rfl ?_; intro g_k0 w9 hg_k0 k0 f9; have zf_k0 := f.size; have hl_k0 := k0.lt; have z9 := f9.size; replace f := f.trans f9; (try replace ho1 := ho1.fr f9); (try replace ho2 := ho2.fr f9); (try clear r_k0); have r_k0 := k0.cells)
    | ((with_reducible refine gate_dst (N := 1) rfl ?_); refine wpList_newrow tInt 3 [10, 10, 10] 3 rfl rfl (by first | (go_simp; done) | (go_simp; rfl)) (orow_ints_lit _ _ [10, 10, 10] (by simp)) (by simp) (by simp) ((Fr.refl _).alloc _) ?_; intro A1 c1 w9 F1 ho1 hn1 hb1 f9; have hu1 := ho1.lt; have z9 := f9.size; replace f := f.trans f9; (try replace ho1 := ho1.fr f9); (try replace ho2 := ho2.fr f9); (try (replace k0 := k0.fr f9; (try clear r_k0); have r_k0 := k0.cells)))
    | ((with_reducible refine gate_dst (N := 2) rfl ?_); refine wpList_newrow tInt 3 [0, 0, 0] 3 rfl rfl (by first | (go_simp; done) | (go_simp; rfl)) (orow_ints_lit _ _ [0, 0, 0] (by simp)) (by simp) (by simp) ((Fr.refl _).alloc _) ?_; intro A2 c2 w9 F2 ho2 hn2 hb2 f9; have hu2 := ho2.lt; have z9 := f9.size; replace f := f.trans f9; (try replace ho1 := ho1.fr f9); (try replace ho2 := ho2.fr f9); (try (replace k0 := k0.fr f9; (try clear r_k0); have r_k0 := k0.cells)))
    | ((with_reducible refine gate_store (p := 0) rfl ?_); refine wpList_bstore k0 rfl _ _ _ rfl 0 3 rfl (.agg #[.slice A1 3 c1, .slice A2 3 c2, .int .i64 0]) rfl #[.slice A1 3 c1, .slice A2 3 c2, .int .i64 0] rfl rfl size26 (by simp) (by intro u hu; simp at hu; rcases hu with rfl | rfl | rfl; rfl; rfl; rfl) #[.slice A1 3 c1, .slice A2 3 c2, .int .i64 0] rfl ?_; intro w9 k9 c9; have z9 := c9.size; replace f := f.own c9 (fun q hq => by have := List.mem_singleton.1 hq; have := f.size; omega); (try replace ho1 := ho1.chg c9 (fun q hq hm => by have := hb1 q hq; have := hu1 q hq; have := List.mem_singleton.1 hm; omega)); (try replace ho2 := ho2.chg c9 (fun q hq hm => by have := hb2 q hq; have := hu2 q hq; have := List.mem_singleton.1 hm; omega)); replace k0 := k9; clear k9; (try clear r_k0); have r_k0 := k0.cells))
  exact bodyPost_ret (v := .agg #[.slice A1 3 c1, .slice A2 3 c2, .int .i64 0]) (results_cell_row rfl _ _ g_k0 _ _ _ _ rfl k0.blk Try.underlying26 rfl size26) rfl
    ⟨[.slice A1 3 c1, .slice A2 3 c2, .int .i64 0], F1 ++ F2, rfl, ⟨_, _, F1, F2, rfl, rfl, ho1, ho2, by decide, by decide⟩, nodup_lt hn1 hn2 hu1 (by omega) hb2, lo_append (lo_mono hb1 (by omega)) (lo_mono hb2 (Nat.le_refl _)) (by omega), f⟩

theorem rep_step (k : Nat) (h : k < 3) : (List.replicate k (10 : Int) ++ List.replicate (3 - k) (0 : Int)).set k 10 = List.replicate (k + 1) 10 ++ List.replicate (3 - (k + 1)) 0 := by
  rcases (by omega : k = 0 ∨ k = 1 ∨ k = 2) with rfl | rfl | rfl <;> rfl
set_option maxHeartbeats 1600000 in
theorem BankNew_c (w : World) : Calls Try.prog 21 #[] w (RetOwn tBk newBk w) := by
  have f := Fr.refl w
  have hmk : ∀ W : World, (Instr.makeSlice 24 (.int .i64 3) (.int .i64 3)).run Try.prog W = .ok (.slice (some ⟨W.heap.size, 0, none⟩) 3 3) (W.alloc (.cells #[.int .i64 0, .int .i64 0, .int .i64 0] 3)) := fun _ => by kernel_rfl
  go_enter Try.func21, Try.ntmps21
  go_upto_region 1 with (((with_reducible refine gate_dst (N := 0) rfl ?_); refine wpList_alloc rfl _ rfl _ (zero26 _) #[.slice none 0 0, .slice none 0 0, .int .i64 0] rfl ?_; intro g_k0 w9 hg_k0 k0 f9; have zf_k0 := f.size; have hl_k0 := k0.lt; have z9 := f9.size; replace f := f.trans f9; (try replace ho1 := ho1.fr f9); (try replace ho2 := ho2.fr f9); (try (replace k1 := k1.fr f9; (try clear r_k1); have r_k1 := k1.cells)); (try clear r_k0); have r_k0 := k0.cells))
  simp only [Act.put, List.setIfInBounds_toArray, List.set_cons_zero, List.set_cons_succ]
  go_cut [1] (fun v1 wr => ∃ g1 g3 g4, v1 = .pointer (some ⟨g1, 0, none⟩) ∧ Box wr g1 26 #[.slice (some ⟨g3, 0, none⟩) 3 3, .slice (some ⟨g4, 0, none⟩) 3 3, .int .i64 0] ∧ tInt.orow 3 wr (.slice (some ⟨g3, 0, none⟩) 3 3) [0, 0, 0] [g3] ∧ tInt.orow 3 wr (.slice (some ⟨g4, 0, none⟩) 3 3) [0, 0, 0] [g4] ∧
    g_k0 < g1 ∧ g_k0 < g3 ∧ g_k0 < g4 ∧ g1 ≠ g3 ∧ g1 ≠ g4 ∧ g3 ≠ g4 ∧ Fr w9 wr)
  case first =>
    go_region
    all_goals
      go_wp2
      go_meet
      case rel =>
        refine' ⟨_, _, _, rfl, ⟨_⟩, _, _, _⟩
        rotate_left 2
        · first | exact (three_new _ _ _ _).1 | exact (three_new _ _ _ _).2.1 | exact (three_new _ _ _ _).2.2
        · exact orow_of_heap rfl (by decide) (by first | exact (three_new _ _ _ _).1 | exact (three_new _ _ _ _).2.1 | exact (three_new _ _ _ _).2.2)
        · exact orow_of_heap rfl (by decide) (by first | exact (three_new _ _ _ _).1 | exact (three_new _ _ _ _).2.1 | exact (three_new _ _ _ _).2.2)
        · exact ⟨by omega, by omega, by omega, by omega, by omega, by omega, ((((Fr.refl _).alloc _).alloc _).alloc _).drew⟩
  case rest =>
    obtain ⟨g1, g3, g4, rfl, k1, ho1, ho2, l1, l2, l3, l4, l5, l6, f9⟩ := hcut
    have z9 := f9.size; replace f := f.trans f9; (try replace ho1 := ho1.fr f9); (try replace ho2 := ho2.fr f9); (try (replace k0 := k0.fr f9; (try clear r_k0); have r_k0 := k0.cells)); (try (replace k1 := k1.fr f9; (try clear r_k1); have r_k1 := k1.cells))
    have r_k1 := k1.cells
    have lt3 := ho1.lt g3 (by simp)
    have lt4 := ho2.lt g4 (by simp)
    go_wp2
    go_loopw [2, 9] (fun _ i wr => ∃ k : Nat, k ≤ 3 ∧ i = .int .i64 k ∧ tInt.orow 3 wr (.slice (some ⟨g3, 0, none⟩) 3 3) (List.replicate k 10 ++ List.replicate (3 - k) 0) [g3] ∧ Chg [g3] wc wr) (fun _ i _ => 3 - (intOf i).toNat)
    case atStart => exact ⟨0, by omega, rfl, ho1, Chg.refl _ _⟩
    case round =>
      obtain ⟨k, hk, rfl, hr, hc⟩ := hrel
      have k1' := k1.chg hc (by simp; omega)
      clear r_k0 r_k1
      have r_k1 := k1'.cells
      by_cases hlt : k < 3
      · obtain ⟨g, y, e, h4, g1', g2', hs⟩ := orow_int_at hr (k := k) (by simp; omega)
        cases e
        have hs2 := hs 10
        rw [rep_step k hlt] at hs2
        clear hs hr h4
        have p1 : (k : Int) < 3 := by omega
        go_wp2
        go_roundw
        case rel => exact ⟨k + 1, by omega, by go_num, hs2, hc.set (.inl (by simp)) _⟩
        case measure => simp [intOf]; omega
      · obtain rfl : k = 3 := by omega
        have hr2 : tInt.orow 3 wr (.slice (some ⟨g3, 0, none⟩) 3 3) [10, 10, 10] [g3] := hr
        have ho2' := ho2.chg hc (by simp; omega)
        have k0' := k0.chg hc (by simp; omega)
        have f8 : Fr w wr := f.own hc (by simp; omega)
        have sz3 := hc.size
        have l1' := k1'.lt
        have lo : w.heap.size ≤ g3 ∧ w.heap.size ≤ g4 := by omega
        clear hr hc k0 k1 ho1 ho2 f r_k1
        go_wp2_with (first
          | ((with_reducible refine gate_dst (N := 17) rfl ?_); refine wpList_bload k1' rfl _ _ rfl 0 3 rfl _ Try.underlying26 rfl size26 (by simp) #[.slice (some ⟨g3, 0, none⟩) 3 3, .slice (some ⟨g4, 0, none⟩) 3 3, .int .i64 0] rfl ?_)
          | ((with_reducible refine gate_store (p := 0) rfl ?_); refine wpList_bstore k0' rfl _ _ _ rfl 0 3 rfl (.agg #[.slice (some ⟨g3, 0, none⟩) 3 3, .slice (some ⟨g4, 0, none⟩) 3 3, .int .i64 0]) rfl #[.slice (some ⟨g3, 0, none⟩) 3 3, .slice (some ⟨g4, 0, none⟩) 3 3, .int .i64 0] rfl rfl size26 (by simp) (by intro u hu; simp at hu; rcases hu with rfl | rfl | rfl <;> rfl) #[.slice (some ⟨g3, 0, none⟩) 3 3, .slice (some ⟨g4, 0, none⟩) 3 3, .int .i64 0] rfl ?_; intro w9 k9 c9))
        refine bodyPost_ret (v := .agg #[.slice (some ⟨g3, 0, none⟩) 3 3, .slice (some ⟨g4, 0, none⟩) 3 3, .int .i64 0]) (results_cell_row rfl _ _ g_k0 _ _ _ _ rfl k9.blk Try.underlying26 rfl size26) rfl
          ⟨[.slice (some ⟨g3, 0, none⟩) 3 3, .slice (some ⟨g4, 0, none⟩) 3 3, .int .i64 0], [g3] ++ [g4], rfl, ⟨_, _, [g3], [g4], rfl, rfl, hr2.chg c9 (by simp; omega), ho2'.chg c9 (by simp; omega), by decide, by decide⟩, by simp; omega, by simp; omega, f8.own c9 (by simp; omega)⟩
end Go.Proofs.Ytapdcgjccckjeaa
namespace Go.Proofs.Ytapdcgjccckjeaa
set_option maxRecDepth 100000
set_option linter.unusedVariables false
set_option linter.unusedSimpArgs false
open Go.RowKit
def newSt : St := ⟨0, 1, 0, [], [], [], List.replicate 8 0⟩
theorem newSt_I : I64 0 ∧ I64 1 ∧ I64 0 := by unfold I64; omega
theorem make8 (W : World) : (Instr.makeSlice 24 (.int .i64 8) (.int .i64 8)).run Try.prog W = .ok (.slice (some ⟨W.heap.size, 0, none⟩) 8 8) (W.alloc (.cells #[.int .i64 0, .int .i64 0, .int .i64 0, .int .i64 0, .int .i64 0, .int .i64 0, .int .i64 0, .int .i64 0] 3)) := by kernel_rfl
set_option maxHeartbeats 800000 in
theorem StateNew_c (w : World) : Calls Try.prog 23 #[] w (RetOwn tSt newSt w) := by
  have S := Sep.start w
  have hmk := make8
  go_enter Try.func23, Try.ntmps23
  go_wp2_with (first
    | ((with_reducible refine gate_dst (N := 1) rfl ?_); refine wpList_smade S (by rfl) tInt 3 0 [.int .i64 0] 8 (fun _ => ⟨rfl, rfl⟩) (by decide) #[.int .i64 0, .int .i64 0, .int .i64 0, .int .i64 0, .int .i64 0, .int .i64 0, .int .i64 0, .int .i64 0] (by kernel_rfl) (by first | (go_simp; done) | (go_simp; rfl)) ?_; clear S; intro g1 w9 z9 S)
    | ((with_reducible refine gate_box rfl ?_); refine aBx S ?_; clear S; intro g9 w9 z9 S) | ((with_reducible refine gate_alloc rfl ?_); refine aAl S ?_; clear S; intro g9 w9 z9 S) | ((with_reducible refine gate_load rfl ?_); first | refine aLd S ?_ | refine aPt S ?_ | refine aL1 S ?_) | ((with_reducible refine gate_st rfl ?_); (first | refine aS1 S ?_ | refine aSt S ?_ | refine aSp S ?_); clear S; intro w9 S))
  have S1 := ((S.addNil tBool 4).addNil tBool 4).addNil tPk 88
  have S := S1
  have S' := Sep.shutSt (L := []) (x := 0) (y := 1) (z := 0) (Sep.only4 (a1 := aRow tPk _ _ _ _) (a2 := aRow tBool _ _ _ _) (a3 := aRow tBool _ _ _ _) (a4 := aRow tInt _ _ _ _) S delA delA delA delA) newSt_I
  (refine Sep.ret1 S rfl rfl memA Try.underlying30 rfl ts30 rfl ?_)
  exact S'.retOwn List.mem_cons_self
set_option maxHeartbeats 800000 in
theorem sStateNew_c (w : World) : Calls Try.prog 63 #[] w (RetOwn tSt newSt w) := by
  have S := Sep.start w
  have hmk := make8
  go_enter Try.func63, Try.ntmps63
  go_wp2_with (first
    | ((with_reducible refine gate_dst (N := 1) rfl ?_); refine wpList_smade S (by rfl) tPk 88 zPk zPk.cells 0 (fun _ => ⟨⟨rfl, zPk_ok⟩, rfl⟩) (by decide) #[] (by kernel_rfl) (by first | (go_simp; done) | (go_simp; rfl)) ?_; clear S; intro g1 w9 z9 S)
    | ((with_reducible refine gate_dst (N := 2) rfl ?_); refine wpList_smade S (by rfl) tBool 4 false [.bool false] 0 (fun _ => ⟨rfl, rfl⟩) (by decide) #[] (by kernel_rfl) (by first | (go_simp; done) | (go_simp; rfl)) ?_; clear S; intro g2 w9 z9 S)
    | ((with_reducible refine gate_dst (N := 3) rfl ?_); refine wpList_smade S (by rfl) tBool 4 false [.bool false] 0 (fun _ => ⟨rfl, rfl⟩) (by decide) #[] (by kernel_rfl) (by first | (go_simp; done) | (go_simp; rfl)) ?_; clear S; intro g3 w9 z9 S)
    | ((with_reducible refine gate_dst (N := 4) rfl ?_); refine wpList_smade S (by rfl) tInt 3 0 [.int .i64 0] 8 (fun _ => ⟨rfl, rfl⟩) (by decide) #[.int .i64 0, .int .i64 0, .int .i64 0, .int .i64 0, .int .i64 0, .int .i64 0, .int .i64 0, .int .i64 0] (by kernel_rfl) (by first | (go_simp; done) | (go_simp; rfl)) ?_; clear S; intro g4 w9 z9 S)
    | ((with_reducible refine gate_box rfl ?_); refine aBx S ?_; clear S; intro g9 w9 z9 S) | ((with_reducible refine gate_alloc rfl ?_); refine aAl S ?_; clear S; intro g9 w9 z9 S) | ((with_reducible refine gate_load rfl ?_); first | refine aLd S ?_ | refine aPt S ?_ | refine aL1 S ?_) | ((with_reducible refine gate_st rfl ?_); (first | refine aS1 S ?_ | refine aSt S ?_ | refine aSp S ?_); clear S; intro w9 S))
  have S' := Sep.shutSt (L := []) (x := 0) (y := 1) (z := 0) (Sep.only4 (a1 := aRow tPk _ _ _ [g1]) (a2 := aRow tBool _ _ _ [g2]) (a3 := aRow tBool _ _ _ [g3]) (a4 := aRow tInt _ _ _ [g4]) S delA delA delA delA) newSt_I
  (refine Sep.ret1 S rfl rfl memA Try.underlying30 rfl ts30 rfl ?_)
  exact S'.retOwn List.mem_cons_self
end Go.Proofs.Ytapdcgjccckjeaa
namespace Go.Proofs.Ytapdcgjccckjeaa
set_option maxRecDepth 100000
set_option linter.unusedVariables false
set_option linter.unusedSimpArgs false
open Go.RowKit
theorem Sep.front2 {F0 : List Nat} {w0 w : World} {L L1 L2 : List Asrt} {a1 : Asrt} {a2 : Asrt} (S : Sep F0 w0 L w) (p1 : Del L a1 L1 := by (repeat (first | with_reducible exact Del.head _ _ | with_reducible apply Del.tail)) <;> fail) (p2 : Del L1 a2 L2 := by (repeat (first | with_reducible exact Del.head _ _ | with_reducible apply Del.tail)) <;> fail) : Sep F0 w0 (a1 :: a2 :: L2) w := by
  have T1 := S.pull p1
  have T2 := T1.pull (.tail _ p2)
  have U2 := T2
  have U1 := U2.pull (.tail _ (.head _ _))
  exact U1
theorem Sep.front3 {F0 : List Nat} {w0 w : World} {L L1 L2 L3 : List Asrt} {a1 : Asrt} {a2 : Asrt} {a3 : Asrt} (S : Sep F0 w0 L w) (p1 : Del L a1 L1 := by (repeat (first | with_reducible exact Del.head _ _ | with_reducible apply Del.tail)) <;> fail) (p2 : Del L1 a2 L2 := by (repeat (first | with_reducible exact Del.head _ _ | with_reducible apply Del.tail)) <;> fail) (p3 : Del L2 a3 L3 := by (repeat (first | with_reducible exact Del.head _ _ | with_reducible apply Del.tail)) <;> fail) : Sep F0 w0 (a1 :: a2 :: a3 :: L3) w := by
  have T1 := S.pull p1
  have T2 := T1.pull (.tail _ p2)
  have T3 := T2.pull (.tail _ (.tail _ p3))
  have U3 := T3
  have U2 := U3.pull (.tail _ (.head _ _))
  have U1 := U2.pull (.tail _ (.tail _ (.head _ _)))
  exact U1
theorem Sep.front4 {F0 : List Nat} {w0 w : World} {L L1 L2 L3 L4 : List Asrt} {a1 : Asrt} {a2 : Asrt} {a3 : Asrt} {a4 : Asrt} (S : Sep F0 w0 L w) (p1 : Del L a1 L1 := by (repeat (first | with_reducible exact Del.head _ _ | with_reducible apply Del.tail)) <;> fail) (p2 : Del L1 a2 L2 := by (repeat (first | with_reducible exact Del.head _ _ | with_reducible apply Del.tail)) <;> fail) (p3 : Del L2 a3 L3 := by (repeat (first | with_reducible exact Del.head _ _ | with_reducible apply Del.tail)) <;> fail) (p4 : Del L3 a4 L4 := by (repeat (first | with_reducible exact Del.head _ _ | with_reducible apply Del.tail)) <;> fail) : Sep F0 w0 (a1 :: a2 :: a3 :: a4 :: L4) w := by
  have T1 := S.pull p1
  have T2 := T1.pull (.tail _ p2)
  have T3 := T2.pull (.tail _ (.tail _ p3))
  have T4 := T3.pull (.tail _ (.tail _ (.tail _ p4)))
  have U4 := T4
  have U3 := U4.pull (.tail _ (.head _ _))
  have U2 := U3.pull (.tail _ (.tail _ (.head _ _)))
  have U1 := U2.pull (.tail _ (.tail _ (.tail _ (.head _ _))))
  exact U1
/-- A call that leaves the parts A where it was handed the blocks F. -/
def RetS (v : Value) (F : List Nat) (A : List Asrt) (w : World) : Ending → World → Prop := fun e w' => e = .returned v ∧ Sep F w A w'
theorem Sep.startLnk {w : World} {g : Nat} {c : Ch} {F : List Nat} (h : (aLnk g c F).ok w) (hn : F.Nodup) : Sep F w [aLnk g c F] w :=
  ⟨Chg.refl _ _, (fun a ha => by rw [List.mem_singleton.1 ha]; exact h), (fun a ha q hq => by rw [List.mem_singleton.1 ha] at hq; exact .inl hq), by simpa [fps, aLnk] using hn⟩
theorem Sep.lnk {F0 : List Nat} {w0 w : World} {L : List Asrt} {g : Nat} {c : Ch} {F : List Nat} (S : Sep F0 w0 L w) (h : aLnk g c F ∈ L) : (aLnk g c F).ok w ∧ F.Nodup := ⟨S.ok _ h, S.nodup h⟩
theorem Sep.callLnk {F0 : List Nat} {w0 w w' : World} {L L' A' : List Asrt} {g : Nat} {c : Ch} {F : List Nat} (S : Sep F0 w0 L w) (p : Del L (aLnk g c F) L') (T : Sep F w A' w') : Sep F0 w0 (A' ++ L') w' := Sep.call [aLnk g c F] (S.pull p) (by simpa [fps, aLnk] using T)
set_option maxHeartbeats 3200000 in
theorem bankCopy_c (w : World) (b : Bk) (c1 : List Value) (h1 : tBk.rd w b c1) (hb : b.own.length ≤ 2097152 ∧ b.notes.length ≤ 2097152) : Calls Try.prog 130 #[.agg c1.toArray] w (RetOwn tBk b w) := by
  obtain ⟨v1, v2, rfl, h11, h12, h13⟩ := h1
  obtain ⟨b1, b2⟩ := hb
  have S := Sep.start w
  go_enter Try.func130, Try.ntmps130
  go_wp2_with (first | ((with_reducible refine gate_dst (N := 1) rfl ?_); refine aBx S ?_; clear S; intro gP w9 z9 S) | ((with_reducible refine gate_dst (N := 2) rfl ?_); refine aAl S ?_; clear S; intro gR w9 z9 S))
  have S0 := (Sep.only1 (a1 := aBox gP _ _ _) S delA)
  refine wp_region_noPanic ?_
  refine wp_region_held_drew (S := Sep _ _ _) (by kernel_rfl) S0.drew (fun _ => ?_)
  replace S := S.drew
  clear S0
  refine tk 0 ?_
  (try simp only [Act.put, List.setIfInBounds_toArray, List.set_cons_zero, List.set_cons_succ])
  refine tk 1 ?_
  (try simp only [Act.put, List.setIfInBounds_toArray, List.set_cons_zero, List.set_cons_succ])
  refine tk 3 ?_
  (try simp only [Act.put, List.setIfInBounds_toArray, List.set_cons_zero, List.set_cons_succ])
  refine tk 4 ?_
  (try simp only [Act.put, List.setIfInBounds_toArray, List.set_cons_zero, List.set_cons_succ])
  refine tk 6 ?_
  (try simp only [Act.put, List.setIfInBounds_toArray, List.set_cons_zero, List.set_cons_succ])
  refine tk 7 ?_
  (try simp only [Act.put, List.setIfInBounds_toArray, List.set_cons_zero, List.set_cons_succ])
  refine rdy1 2 (fun K hK => ?_)
  go_simp; (skip; go_at_call 127; (with_reducible refine (freshI_c _ _ b.own (h11.fr S.frame) b1).mono ?_); rintro e w9 ⟨v9, F9, rfl, h9, n9, b9, f9⟩; obtain ⟨A9, c9, rfl⟩ := h9.row.val; replace S := S.new (aRow tInt 3 _ (.slice A9 _ c9) F9) h9 n9 b9 f9; clear h9 n9 b9 f9)
  (first | refine hK.out _ _ (S.sub subA) (fun _ => ?_) | (go_wp2_with fail; refine hK.out _ _ (S.sub subA) (fun _ => ?_)))
  clear hK K
  (try simp only [Act.put, List.setIfInBounds_toArray, List.set_cons_zero, List.set_cons_succ])
  refine rdy1 5 (fun K hK => ?_)
  go_simp; (skip; go_at_call 127; (with_reducible refine (freshI_c _ _ b.notes (h12.fr S.frame) b2).mono ?_); rintro e w9 ⟨v9, F9, rfl, h9, n9, b9, f9⟩; obtain ⟨A9, c9, rfl⟩ := h9.row.val; replace S := S.new (aRow tInt 3 _ (.slice A9 _ c9) F9) h9 n9 b9 f9; clear h9 n9 b9 f9)
  (first | refine hK.out _ _ (S.sub subA) (fun _ => ?_) | (go_wp2_with fail; refine hK.out _ _ (S.sub subA) (fun _ => ?_)))
  clear hK K
  (try simp only [Act.put, List.setIfInBounds_toArray, List.set_cons_zero, List.set_cons_succ])
  refine tk 8 ?_
  (try simp only [Act.put, List.setIfInBounds_toArray, List.set_cons_zero, List.set_cons_succ])
  refine rdy1 9 (fun K hK => ?_)
  (first | refine rgS1 S ?_ | refine rgSt S ?_ | refine rgSp S ?_); clear S; intro w9 S
  (first | refine hK.out _ _ (S.sub subA) (fun _ => ?_) | (go_wp2_with fail; refine hK.out _ _ (S.sub subA) (fun _ => ?_)))
  clear hK K
  (try simp only [Act.put, List.setIfInBounds_toArray, List.set_cons_zero, List.set_cons_succ])
  refine wpAnyH_done (by kernel_rfl) ?_ _
  refine NoPanic.normal ?_
  go_wp2
  have S' := Sep.shutBk (l := b.locked) (Sep.only2 (a1 := aRow tInt _ b.own _ _) (a2 := aRow tInt _ b.notes _ _) S delA delA) h13
  (refine Sep.ret1 S rfl rfl memA Try.underlying26 rfl ts26 rfl ?_)
  exact S'.retOwn List.mem_cons_self
def newCh (id : Int) : Ch := ⟨id, newBk, newSt, [], []⟩
set_option maxHeartbeats 3200000 in
theorem linkNew_c (w : World) (id : Int) (hi : I64 id) : Calls Try.prog 64 #[.int .i64 id] w fun e w' => ∃ g F, e = .returned (.pointer (some ⟨g, 0, none⟩)) ∧ Sep [] w [aLnk g (newCh id) F] w' := by
  have S := Sep.start w
  go_enter Try.func64, Try.ntmps64
  go_wp2_with (first
    | (go_at_call 21; (with_reducible refine (BankNew_c _).mono ?_); rintro e w9 ⟨cs9, F9, rfl, h9, n9, b9, f9⟩; replace S := S.new (aOwn tBk _ cs9 F9) h9 n9 b9 f9; clear h9 n9 b9 f9; obtain ⟨x1, x2, Y1, Y2, rfl, rfl, I9, S⟩ := S.openBk)
    | (go_at_call 23; (with_reducible refine (StateNew_c _).mono ?_); rintro e w9 ⟨cs9, F9, rfl, h9, n9, b9, f9⟩; replace S := S.new (aOwn tSt _ cs9 F9) h9 n9 b9 f9; clear h9 n9 b9 f9; obtain ⟨A1, n1, A2, n2, A3, n3, A4, n4, Z1, Z2, Z3, Z4, rfl, rfl, J9, S⟩ := S.openSt)
    | ((with_reducible refine gate_box rfl ?_); refine aBx S ?_; clear S; intro g9 w9 z9 S) | ((with_reducible refine gate_alloc rfl ?_); refine aAl S ?_; clear S; intro g9 w9 z9 S) | ((with_reducible refine gate_load rfl ?_); first | refine aLd S ?_ | refine aPt S ?_ | refine aL1 S ?_) | ((with_reducible refine gate_st rfl ?_); (first | refine aS1 S ?_ | refine aSt S ?_ | refine aSp S ?_); clear S; intro w9 S))
  have S := S.mksNew
  have S := S.addNil tInt 3
  have S' := S.allLnk ⟨id, newBk, newSt, [], []⟩ I9 J9 hi
  go_ret
  exact ⟨_, _, rfl, S'.left [_]⟩
end Go.Proofs.Ytapdcgjccckjeaa
namespace Go.Proofs.Ytapdcgjccckjeaa
set_option maxRecDepth 100000
set_option linter.unusedVariables false
set_option linter.unusedSimpArgs false
open Go.RowKit
set_option maxHeartbeats 3200000 in
theorem record_c (w : World) (g : Nat) (c : Ch) (F : List Nat) (h : (aLnk g c F).ok w ∧ F.Nodup) (s : St) (cs : List Value) (hs : tSt.rd w s cs) (hb : smallSt s) (hl : c.past.length ≤ 1000000) :
    Calls Try.prog 131 #[.pointer (some ⟨g, 0, none⟩), .agg cs.toArray] w fun e w' => e = .returned (.tuple #[]) ∧ ∃ F', Sep F w [aLnk g ⟨c.id, c.bank, c.st, c.past ++ [s], c.knows⟩ F'] w' := by
  have S := Sep.startLnk h.1 h.2
  obtain ⟨A1, m1, A2, m2, B1, n1, B2, n2, B3, n3, B4, n4, p, A5, m5, Y1, Y2, Z1, Z2, Z3, Z4, M1, K1, I9, J9, h15, S⟩ := S.openLnk
  have LN := Lib.hid (show cs.length = 7 from tSt.len hs)
  have SB := Lib.hid hb
  have pw : IntKind.i64.wrap ((c.past.length : Int) + 1) = (c.past.length : Int) + 1 := IntWalk.i64_in _ (by omega)
  clear h hb hl
  go_enter Try.func131, Try.ntmps131
  go_wp2_with (first
    | ((with_reducible refine gate_dst (N := 3) rfl ?_); refine wpList_box rfl _ _ rfl cs.toArray rfl ?_; intro g3 w9 hg3 k3 f9; replace S := S.new (aBox g3 30 7 cs) ⟨k3, LN.out⟩ (by simp [aBox]) (fun q hq => by rw [List.mem_singleton.1 hq]; exact hg3) f9; have HS := Lib.hid (tSt.fr ((Fr.refl _).drew) (tSt.fr f9 hs))))
  have S0 := (Sep.only1 (a1 := aBox g3 _ _ _) S delA)
  refine wp_region_noPanic ?_
  refine wp_region_held_drew (S := Sep _ _ _) (by kernel_rfl) S0.drew (fun _ => ?_)
  replace S := S.drew
  clear S0
  refine tk 0 ?_
  (try simp only [Act.put, List.setIfInBounds_toArray, List.set_cons_zero, List.set_cons_succ])
  refine tk 1 ?_
  (try simp only [Act.put, List.setIfInBounds_toArray, List.set_cons_zero, List.set_cons_succ])
  refine tk 3 ?_
  (try simp only [Act.put, List.setIfInBounds_toArray, List.set_cons_zero, List.set_cons_succ])
  refine tk 4 ?_
  (try simp only [Act.put, List.setIfInBounds_toArray, List.set_cons_zero, List.set_cons_succ])
  refine tk 5 ?_
  (try simp only [Act.put, List.setIfInBounds_toArray, List.set_cons_zero, List.set_cons_succ])
  refine rdys [2, 6] ?_
  refine rdc 2 (fun K hK => ?_) ?_
  · go_simp; (skip; go_at_call 95; (with_reducible refine (stateCopy_c _ s _ HS.out SB.out).mono ?_); rintro e w9 ⟨cs9, F9, rfl, h9, n9, b9, f9⟩; replace S := S.new (aOwn tSt _ cs9 F9) h9 n9 b9 f9; clear h9 n9 b9 f9; obtain ⟨A6, n6, A7, n7, A8, n8, A9, n9, Z6, Z7, Z8, Z9, rfl, rfl, J6, S9⟩ := S.openSt; replace S := S9; clear S9)
    (first | refine hK.out _ _ (S.sub subA) (fun _ => ?_) | (go_wp2_with fail; refine hK.out _ _ (S.sub subA) (fun _ => ?_)))
    clear hK K
    (try simp only [Act.put, List.setIfInBounds_toArray, List.set_cons_zero, List.set_cons_succ])
    refine rdy1 6 (fun K hK => ?_)
    (first | refine rgLd S ?_ | refine rgPt S ?_ | refine rgL1 S ?_)
    (first | refine hK.out _ _ (S.sub subA) (fun _ => ?_) | (go_wp2_with fail; refine hK.out _ _ (S.sub subA) (fun _ => ?_)))
    clear hK K
    (try simp only [Act.put, List.setIfInBounds_toArray, List.set_cons_zero, List.set_cons_succ])
    refine tk 7 ?_
    (try simp only [Act.put, List.setIfInBounds_toArray, List.set_cons_zero, List.set_cons_succ])
    refine rdy1 8 (fun K hK => ?_)
    refine rgBx S ?_; clear S; intro gm w9 z9 S
    (first | refine hK.out _ _ (S.sub subA) (fun _ => ?_) | (go_wp2_with fail; refine hK.out _ _ (S.sub subA) (fun _ => ?_)))
    clear hK K
    (try simp only [Act.put, List.setIfInBounds_toArray, List.set_cons_zero, List.set_cons_succ])
    refine tk 9 ?_
    (try simp only [Act.put, List.setIfInBounds_toArray, List.set_cons_zero, List.set_cons_succ])
    refine tk 10 ?_
    (try simp only [Act.put, List.setIfInBounds_toArray, List.set_cons_zero, List.set_cons_succ])
    refine rdy1 11 (fun K hK => ?_)
    (first | refine rgS1 S ?_ | refine rgSt S ?_ | refine rgSp S ?_); clear S; intro w9 S
    (first | refine hK.out _ _ (S.sub subA) (fun _ => ?_) | (go_wp2_with fail; refine hK.out _ _ (S.sub subA) (fun _ => ?_)))
    clear hK K
    (try simp only [Act.put, List.setIfInBounds_toArray, List.set_cons_zero, List.set_cons_succ])
    refine wpAnyH_done (by kernel_rfl) ?_ _
    refine NoPanic.normal ?_
    go_wp2_with (first | ((with_reducible refine gate_box rfl ?_); refine aBx S ?_; clear S; intro g9 w9 z9 S) | ((with_reducible refine gate_alloc rfl ?_); refine aAl S ?_; clear S; intro g9 w9 z9 S) | ((with_reducible refine gate_load rfl ?_); first | refine aLd S ?_ | refine aPt S ?_ | refine aL1 S ?_) | ((with_reducible refine gate_st rfl ?_); (first | refine aS1 S ?_ | refine aSt S ?_ | refine aSp S ?_); clear S; intro w9 S))
    have S := Sep.shutSt (x := s.way) (y := s.vsn) (z := s.want) (S.front4 (a1 := aRow tPk _ s.sent _ Z6) (a2 := aRow tBool _ s.live _ Z7) (a3 := aRow tBool _ s.back _ Z8) (a4 := aRow tInt _ s.got _ Z9)) J6
    have S := Sep.mksCons (S.front3 (a1 := aBox gm _ _ _) (a2 := aOwn tSt _ _ _) (a3 := aMks _ _ _))
    have S' := S.allLnk ⟨c.id, c.bank, c.st, c.past ++ [s], c.knows⟩ I9 J9 h15
    (try simp only [Exit.inBlock, Exit.then])
    refine bodyPost_end (results_none rfl _ _ _) rfl ?_
    exact ⟨rfl, _, S'.left [_]⟩
  refine rdc 6 (fun K hK => ?_) AllReadyH.nil
  (first | refine rgLd S ?_ | refine rgPt S ?_ | refine rgL1 S ?_)
  (first | refine hK.out _ _ (S.sub subA) (fun _ => ?_) | (go_wp2_with fail; refine hK.out _ _ (S.sub subA) (fun _ => ?_)))
  clear hK K
  (try simp only [Act.put, List.setIfInBounds_toArray, List.set_cons_zero, List.set_cons_succ])
  refine rdy1 2 (fun K hK => ?_)
  go_simp; (skip; go_at_call 95; (with_reducible refine (stateCopy_c _ s _ HS.out SB.out).mono ?_); rintro e w9 ⟨cs9, F9, rfl, h9, n9, b9, f9⟩; replace S := S.new (aOwn tSt _ cs9 F9) h9 n9 b9 f9; clear h9 n9 b9 f9; obtain ⟨A6, n6, A7, n7, A8, n8, A9, n9, Z6, Z7, Z8, Z9, rfl, rfl, J6, S9⟩ := S.openSt; replace S := S9; clear S9)
  (first | refine hK.out _ _ (S.sub subA) (fun _ => ?_) | (go_wp2_with fail; refine hK.out _ _ (S.sub subA) (fun _ => ?_)))
  clear hK K
  (try simp only [Act.put, List.setIfInBounds_toArray, List.set_cons_zero, List.set_cons_succ])
  refine tk 7 ?_
  (try simp only [Act.put, List.setIfInBounds_toArray, List.set_cons_zero, List.set_cons_succ])
  refine rdy1 8 (fun K hK => ?_)
  refine rgBx S ?_; clear S; intro gm w9 z9 S
  (first | refine hK.out _ _ (S.sub subA) (fun _ => ?_) | (go_wp2_with fail; refine hK.out _ _ (S.sub subA) (fun _ => ?_)))
  clear hK K
  (try simp only [Act.put, List.setIfInBounds_toArray, List.set_cons_zero, List.set_cons_succ])
  refine tk 9 ?_
  (try simp only [Act.put, List.setIfInBounds_toArray, List.set_cons_zero, List.set_cons_succ])
  refine tk 10 ?_
  (try simp only [Act.put, List.setIfInBounds_toArray, List.set_cons_zero, List.set_cons_succ])
  refine rdy1 11 (fun K hK => ?_)
  (first | refine rgS1 S ?_ | refine rgSt S ?_ | refine rgSp S ?_); clear S; intro w9 S
  (first | refine hK.out _ _ (S.sub subA) (fun _ => ?_) | (go_wp2_with fail; refine hK.out _ _ (S.sub subA) (fun _ => ?_)))
  clear hK K
  (try simp only [Act.put, List.setIfInBounds_toArray, List.set_cons_zero, List.set_cons_succ])
  refine wpAnyH_done (by kernel_rfl) ?_ _
  refine NoPanic.normal ?_
  go_wp2_with (first | ((with_reducible refine gate_box rfl ?_); refine aBx S ?_; clear S; intro g9 w9 z9 S) | ((with_reducible refine gate_alloc rfl ?_); refine aAl S ?_; clear S; intro g9 w9 z9 S) | ((with_reducible refine gate_load rfl ?_); first | refine aLd S ?_ | refine aPt S ?_ | refine aL1 S ?_) | ((with_reducible refine gate_st rfl ?_); (first | refine aS1 S ?_ | refine aSt S ?_ | refine aSp S ?_); clear S; intro w9 S))
  have S := Sep.shutSt (x := s.way) (y := s.vsn) (z := s.want) (S.front4 (a1 := aRow tPk _ s.sent _ Z6) (a2 := aRow tBool _ s.live _ Z7) (a3 := aRow tBool _ s.back _ Z8) (a4 := aRow tInt _ s.got _ Z9)) J6
  have S := Sep.mksCons (S.front3 (a1 := aBox gm _ _ _) (a2 := aOwn tSt _ _ _) (a3 := aMks _ _ _))
  have S' := S.allLnk ⟨c.id, c.bank, c.st, c.past ++ [s], c.knows⟩ I9 J9 h15
  (try simp only [Exit.inBlock, Exit.then])
  refine bodyPost_end (results_none rfl _ _ _) rfl ?_
  exact ⟨rfl, _, S'.left [_]⟩
theorem okSt_small {s : St} (h : okSt s = true) : smallSt s := by
  have h1 := okSt_len h
  unfold smallSt
  omega
theorem okBk_len {b : Bk} (h : okBk b = true) : b.own.length = 3 ∧ b.notes.length = 3 := by
  unfold okBk at h
  simp only [Bool.and_eq_true] at h
  exact ⟨okL_len h.1.1.1.1, okL_len h.1.1.1.2⟩
theorem prevK_ge {ks : List Int} : ∀ {k : Nat}, k ≤ ks.length → (List.range k).all (kAt ks) = true → (k : Int) ≤ prevK ks k ∧ prevK ks k ≤ 90
  | 0, _, _ => by simp [prevK]
  | k + 1, hk, h => by
    have h1 : (List.range k).all (kAt ks) = true := by
      rw [List.range_succ, List.all_append, Bool.and_eq_true] at h
      exact h.1
    have h2 : kAt ks k = true := by
      rw [List.range_succ, List.all_append, Bool.and_eq_true] at h
      simpa using h.2
    have h3 := prevK_ge (Nat.le_of_succ_le hk) h1
    rw [prevK_succ (by omega)]
    rw [kAt_eq (by omega), Bool.and_eq_true, decide_eq_true_eq, decide_eq_true_eq] at h2
    omega
theorem knOk_len {ks : List Int} (h : knOk ks = true) : ks.length ≤ 90 := by
  have := prevK_ge (Nat.le_refl _) h
  omega
theorem past_ok {c : Ch} (h : okCh c = true) (k : Nat) (hk : k < c.past.length) : okSt c.past[k] = true := List.all_eq_true.1 (okCh_parts h).2.2.2.2.1 _ (List.getElem_mem hk)
theorem record_b (w : World) (g : Nat) (c : Ch) (F : List Nat) (h : (aLnk g c F).ok w ∧ F.Nodup) (s : St) (cs : List Value) (hs : tSt.rd w s cs) (hb : smallSt s) (hl : c.past.length ≤ 1000000) {ss : List St} (e : c.past ++ [s] = ss) :
    Calls Try.prog 131 #[.pointer (some ⟨g, 0, none⟩), .agg cs.toArray] w fun e w' => e = .returned (.tuple #[]) ∧ ∃ F', Sep F w [aLnk g ⟨c.id, c.bank, c.st, ss, c.knows⟩ F'] w' := e ▸ record_c w g c F h s cs hs hb hl
set_option maxHeartbeats 3200000 in
theorem linkOf_c (w : World) (c : Ch) (c1 : List Value) (h1 : tCh.rd w c c1) (hc : okCh c = true) : Calls Try.prog 104 #[.agg c1.toArray] w fun e w' => ∃ g F, e = .returned (.pointer (some ⟨g, 0, none⟩)) ∧ Sep [] w [aLnk g c F] w' := by
  obtain ⟨b1, b2, s1, s2, s3, s4, v1, v2, rfl, h11, h12, h13, h14, h15⟩ := h1
  obtain ⟨A1, m1, rfl⟩ := h13.val
  obtain ⟨q1, q2, q3, q4, q5, q6⟩ := okCh_parts hc
  have HB := Lib.hid (show c.bank.own.length ≤ 2097152 ∧ c.bank.notes.length ≤ 2097152 by have := okBk_len q2; omega)
  have HS := Lib.hid (okSt_small q3)
  have HK := Lib.hid (show c.knows.length ≤ 2097152 by have := knOk_len q6; omega)
  clear q1 q5
  have S := Sep.start w
  go_enter Try.func104, Try.ntmps104
  go_wp2_with (first | ((with_reducible refine gate_dst (N := 1) rfl ?_); refine aBx S ?_; clear S; intro gP w9 z9 S))
  have S0 := (Sep.only1 (a1 := aBox gP _ _ _) S delA)
  refine wp_region_noPanic ?_
  refine wp_region_held_drew (S := Sep _ _ _) (by kernel_rfl) S0.drew (fun _ => ?_)
  replace S := S.drew
  clear S0
  refine tk 0 ?_
  (try simp only [Act.put, List.setIfInBounds_toArray, List.set_cons_zero, List.set_cons_succ])
  refine tk 1 ?_
  (try simp only [Act.put, List.setIfInBounds_toArray, List.set_cons_zero, List.set_cons_succ])
  refine tk 3 ?_
  (try simp only [Act.put, List.setIfInBounds_toArray, List.set_cons_zero, List.set_cons_succ])
  refine tk 4 ?_
  (try simp only [Act.put, List.setIfInBounds_toArray, List.set_cons_zero, List.set_cons_succ])
  refine tk 5 ?_
  (try simp only [Act.put, List.setIfInBounds_toArray, List.set_cons_zero, List.set_cons_succ])
  refine tk 6 ?_
  (try simp only [Act.put, List.setIfInBounds_toArray, List.set_cons_zero, List.set_cons_succ])
  refine tk 8 ?_
  (try simp only [Act.put, List.setIfInBounds_toArray, List.set_cons_zero, List.set_cons_succ])
  refine tk 9 ?_
  (try simp only [Act.put, List.setIfInBounds_toArray, List.set_cons_zero, List.set_cons_succ])
  refine rdy1 2 (fun K hK => ?_)
  go_simp; (skip; go_at_call 130; (with_reducible refine (bankCopy_c _ c.bank _ (tBk.fr S.frame h11) HB.out).mono ?_); rintro e w9 ⟨cs9, F9, rfl, h9, n9, b9, f9⟩; replace S := S.new (aOwn tBk _ cs9 F9) h9 n9 b9 f9; clear h9 n9 b9 f9; obtain ⟨x1, x2, Y1, Y2, rfl, rfl, I9, S9⟩ := S.openBk; replace S := S9; clear S9)
  (first | refine hK.out _ _ (S.sub subA) (fun _ => ?_) | (go_wp2_with fail; refine hK.out _ _ (S.sub subA) (fun _ => ?_)))
  clear hK K
  (try simp only [Act.put, List.setIfInBounds_toArray, List.set_cons_zero, List.set_cons_succ])
  refine rdy1 7 (fun K hK => ?_)
  go_simp; (skip; go_at_call 95; (with_reducible refine (stateCopy_c _ c.st _ (tSt.fr S.frame h12) HS.out).mono ?_); rintro e w9 ⟨cs9, F9, rfl, h9, n9, b9, f9⟩; replace S := S.new (aOwn tSt _ cs9 F9) h9 n9 b9 f9; clear h9 n9 b9 f9; obtain ⟨A6, n6, A7, n7, A8, n8, A9, n9, Z6, Z7, Z8, Z9, rfl, rfl, J6, S9⟩ := S.openSt; replace S := S9; clear S9)
  (first | refine hK.out _ _ (S.sub subA) (fun _ => ?_) | (go_wp2_with fail; refine hK.out _ _ (S.sub subA) (fun _ => ?_)))
  clear hK K
  (try simp only [Act.put, List.setIfInBounds_toArray, List.set_cons_zero, List.set_cons_succ])
  refine rdy1 10 (fun K hK => ?_)
  go_simp; (skip; go_at_call 127; (with_reducible refine (freshI_c _ _ c.knows (h14.fr S.frame) HK.out).mono ?_); rintro e w9 ⟨v9, F9, rfl, h9, n9, b9, f9⟩; obtain ⟨A9, c9, rfl⟩ := h9.row.val; replace S := S.new (aRow tInt 3 _ (.slice A9 _ c9) F9) h9 n9 b9 f9; clear h9 n9 b9 f9)
  (first | refine hK.out _ _ (S.sub subA) (fun _ => ?_) | (go_wp2_with fail; refine hK.out _ _ (S.sub subA) (fun _ => ?_)))
  clear hK K
  (try simp only [Act.put, List.setIfInBounds_toArray, List.set_cons_zero, List.set_cons_succ])
  refine tk 11 ?_
  (try simp only [Act.put, List.setIfInBounds_toArray, List.set_cons_zero, List.set_cons_succ])
  refine rdy1 12 (fun K hK => ?_)
  refine rgBx S ?_; clear S; intro gL w9 z9 S
  (first | refine hK.out _ _ (S.sub subA) (fun _ => ?_) | (go_wp2_with fail; refine hK.out _ _ (S.sub subA) (fun _ => ?_)))
  clear hK K
  (try simp only [Act.put, List.setIfInBounds_toArray, List.set_cons_zero, List.set_cons_succ])
  refine tk 13 ?_
  (try simp only [Act.put, List.setIfInBounds_toArray, List.set_cons_zero, List.set_cons_succ])
  refine wpAnyH_done (by kernel_rfl) ?_ _
  refine NoPanic.normal ?_
  replace S := S.mksNew
  replace S := S.allLnk ⟨c.id, c.bank, c.st, [], c.knows⟩ I9 J6 h15
  go_wp2_with (first | ((with_reducible refine gate_box rfl ?_); refine aBx S ?_; clear S; intro g9 w9 z9 S) | ((with_reducible refine gate_alloc rfl ?_); refine aAl S ?_; clear S; intro g9 w9 z9 S) | ((with_reducible refine gate_load rfl ?_); first | refine aLd S ?_ | refine aPt S ?_ | refine aL1 S ?_) | ((with_reducible refine gate_st rfl ?_); (first | refine aS1 S ?_ | refine aSt S ?_ | refine aSp S ?_); clear S; intro w9 S))
  go_loopw [22] (fun i wr => ∃ (k : Nat) (F : List Nat), k ≤ c.past.length ∧ i = .int .i64 k ∧ Sep [] w [aLnk gL ⟨c.id, c.bank, c.st, c.past.take k, c.knows⟩ F] wr) (fun i _ => c.past.length - (intOf i).toNat)
  case atStart => exact ⟨0, _, Nat.zero_le _, rfl, S.left [_]⟩
  case round =>
    clear S
    obtain ⟨k, F, hk, rfl, S⟩ := hrel
    by_cases hlt : k < c.past.length
    · obtain ⟨ad1, cs1, rfl, r1, g1⟩ := cellsAt_of_row h13 k hlt
      have G1 := Lib.hid (fun (W : World) (f : Fr w W) => g1.fr f)
      have Q1 := Lib.hid (fun (W : World) (f : Fr w W) => tSt.fr f r1)
      have N1 := Lib.hid (show cs1.length = 7 from tSt.len r1)
      have n1 := tSt_rd_one r1
      have OK := Lib.hid (okSt_small (past_ok hc k hlt))
      have TK := Lib.hid (List.take_succ_eq_append_getElem hlt).symm
      have TL := Lib.hid (show (c.past.take k).length ≤ 1000000 by simp; omega)
      have p0 : (0 : Int) ≤ (k : Int) := Int.natCast_nonneg _
      have p1 : (k : Int) < (c.past.length : Int) := by omega
      clear g1 r1
      go_wp2_with (first | ((with_reducible refine gate_dst (N := 25) rfl ?_); refine aRw (G1.out _ S.frame) ?_ (hn := N1.out)) | (go_at_call 131; (with_reducible refine (record_b _ gL ⟨c.id, c.bank, c.st, c.past.take k, c.knows⟩ F (S.lnk memA) _ _ (Q1.out _ S.frame) OK.out TL.out TK.out).mono ?_); rintro e w9 ⟨rfl, F9, T9⟩; replace S := S.callLnk delA T9; clear T9) | ((with_reducible refine gate_box rfl ?_); refine aBx S ?_; clear S; intro g9 w9 z9 S) | ((with_reducible refine gate_alloc rfl ?_); refine aAl S ?_; clear S; intro g9 w9 z9 S) | ((with_reducible refine gate_load rfl ?_); first | refine aLd S ?_ | refine aPt S ?_ | refine aL1 S ?_) | ((with_reducible refine gate_st rfl ?_); (first | refine aS1 S ?_ | refine aSt S ?_ | refine aSp S ?_); clear S; intro w9 S))
      go_roundw
      case rel => exact ⟨k + 1, F9, by omega, by go_num, S.left [_]⟩
      case measure => simp [intOf]; omega
    · obtain rfl : k = c.past.length := by omega
      rw [List.take_length] at S
      go_wp2_with (first | ((with_reducible refine gate_box rfl ?_); refine aBx S ?_; clear S; intro g9 w9 z9 S) | ((with_reducible refine gate_alloc rfl ?_); refine aAl S ?_; clear S; intro g9 w9 z9 S) | ((with_reducible refine gate_load rfl ?_); first | refine aLd S ?_ | refine aPt S ?_ | refine aL1 S ?_) | ((with_reducible refine gate_st rfl ?_); (first | refine aS1 S ?_ | refine aSt S ?_ | refine aSp S ?_); clear S; intro w9 S))
      go_ret
      exact ⟨gL, F, rfl, S⟩
end Go.Proofs.Ytapdcgjccckjeaa
namespace Go.Proofs.Ytapdcgjccckjeaa
set_option maxRecDepth 100000
set_option linter.unusedVariables false
set_option linter.unusedSimpArgs false
open Go.RowKit
theorem Sep.zStS {F0 : List Nat} {w0 w : World} {L : List Asrt} (S : Sep F0 w0 L w) : Sep F0 w0 (aOwn tSt zStS [.int .i64 0, .int .i64 0, .int .i64 0, .slice none 0 0, .slice none 0 0, .slice none 0 0, .slice none 0 0] [] :: L) w :=
  S.new (aOwn tSt Go.Proofs.Ytapdcgjccckjeaa.zStS _ []) (zStS_own w) (by simp [aOwn]) (fun q hq => by cases hq) (Fr.refl _)
def atV (c : Ch) (h : Int) : St × Bool := if okCh c = true ∧ 1 ≤ h ∧ h ≤ c.past.length then (c.past.getD (h - 1).toNat zStS, true) else (zStS, false)
theorem atV_no {c : Ch} {h : Int} (hn : ¬ (okCh c = true ∧ 1 ≤ h ∧ h ≤ c.past.length)) : atV c h = (zStS, false) := if_neg hn
theorem atV_yes {c : Ch} {k : Nat} (h1 : okCh c = true) (hk : k < c.past.length) : atV c ((k : Int) + 1) = (c.past[k], true) := by
  unfold atV
  rw [if_pos ⟨h1, by omega, by omega⟩]
  have : ((k : Int) + 1 - 1).toNat = k := by omega
  rw [this]
  simp [hk]
set_option maxHeartbeats 3200000 in
theorem ChainAt_c (w : World) (c : Ch) (c1 : List Value) (h1 : tCh.rd w c c1) (h : Int) (bh : I64 h) : Calls Try.prog 42 #[.agg c1.toArray, .int .i64 h] w (RetOwn2 tSt (atV c h) w) := by
  have S := Sep.start w
  cases o1 : okCh c with
  | false =>
    have FIN := Lib.hid (fun (W : World) (f : Fr w W) => tCh.fr f h1)
    have R := Lib.hid (atV_no (c := c) (h := h) (by rw [o1]; simp))
    have LN := Lib.hid (show c1.length = 13 from tCh.len h1)
    have O1 := Lib.hid o1
    clear o1 h1 bh
    go_enter Try.func42, Try.ntmps42
    go_wp2_with (first
      | (go_at_call 19; (with_reducible refine (ChainOk_r _ c _ (FIN.out _ S.frame) O1.out).mono ?_); rintro e w9 ⟨rfl, f9⟩; replace S := S.fr f9; clear f9)
      | ((with_reducible refine gate_box rfl ?_); refine aBx S ?_; clear S; intro g9 w9 z9 S) | ((with_reducible refine gate_alloc rfl ?_); refine aAl S ?_; clear S; intro g9 w9 z9 S) | ((with_reducible refine gate_load rfl ?_); first | refine aLd S ?_ | refine aPt S ?_ | refine aL1 S ?_) | ((with_reducible refine gate_st rfl ?_); (first | refine aS1 S ?_ | refine aSt S ?_ | refine aSp S ?_); clear S; intro w9 S))
    have S' := S.zStS
    (refine Sep.ret1_1 S rfl rfl memA Try.underlying30 rfl ts30 rfl rfl ?_)
    rw [R.out]
    exact S'.retOwn2 List.mem_cons_self
  | true =>
  obtain ⟨b1, b2, s1, s2, s3, s4, v1, v2, rfl, h11, h12, h13, h14, h15⟩ := id h1
  obtain ⟨A1, n1, rfl⟩ := h13.val
  have FIN := Lib.hid (fun (W : World) (f : Fr w W) => tCh.fr f h1)
  have hl := (okCh_parts o1).2.2.2.1
  have O1 := Lib.hid o1
  clear h1 h11 h12 h14 h15
  by_cases e1 : 1 ≤ h
  case neg =>
    have R := Lib.hid (atV_no (c := c) (h := h) (by omega))
    have d1 : decide (h < 1) = true := decide_eq_true (by omega)
    clear o1
    go_enter Try.func42, Try.ntmps42
    go_wp2_with (first
      | (go_at_call 19; (with_reducible refine (ChainOk_r _ c _ (FIN.out _ S.frame) O1.out).mono ?_); rintro e w9 ⟨rfl, f9⟩; replace S := S.fr f9; clear f9)
      | ((with_reducible refine gate_box rfl ?_); refine aBx S ?_; clear S; intro g9 w9 z9 S) | ((with_reducible refine gate_alloc rfl ?_); refine aAl S ?_; clear S; intro g9 w9 z9 S) | ((with_reducible refine gate_load rfl ?_); first | refine aLd S ?_ | refine aPt S ?_ | refine aL1 S ?_) | ((with_reducible refine gate_st rfl ?_); (first | refine aS1 S ?_ | refine aSt S ?_ | refine aSp S ?_); clear S; intro w9 S))
    have S' := S.zStS
    (refine Sep.ret1_1 S rfl rfl memA Try.underlying30 rfl ts30 rfl rfl ?_)
    rw [R.out]
    exact S'.retOwn2 List.mem_cons_self
  by_cases e2 : h ≤ c.past.length
  case neg =>
    have R := Lib.hid (atV_no (c := c) (h := h) (by omega))
    have d1 : decide (h < 1) = false := decide_eq_false (by omega)
    have d2 : decide ((c.past.length : Int) < h) = true := decide_eq_true (by omega)
    clear o1
    go_enter Try.func42, Try.ntmps42
    go_wp2_with (first
      | (go_at_call 19; (with_reducible refine (ChainOk_r _ c _ (FIN.out _ S.frame) O1.out).mono ?_); rintro e w9 ⟨rfl, f9⟩; replace S := S.fr f9; clear f9)
      | ((with_reducible refine gate_box rfl ?_); refine aBx S ?_; clear S; intro g9 w9 z9 S) | ((with_reducible refine gate_alloc rfl ?_); refine aAl S ?_; clear S; intro g9 w9 z9 S) | ((with_reducible refine gate_load rfl ?_); first | refine aLd S ?_ | refine aPt S ?_ | refine aL1 S ?_) | ((with_reducible refine gate_st rfl ?_); (first | refine aS1 S ?_ | refine aSt S ?_ | refine aSp S ?_); clear S; intro w9 S))
    have S' := S.zStS
    (refine Sep.ret1_1 S rfl rfl memA Try.underlying30 rfl ts30 rfl rfl ?_)
    rw [R.out]
    exact S'.retOwn2 List.mem_cons_self
  obtain ⟨k, rfl⟩ : ∃ k : Nat, h = (k : Int) + 1 := ⟨(h - 1).toNat, by omega⟩
  have hlt : k < c.past.length := by omega
  have R := Lib.hid (atV_yes o1 hlt)
  have SB := Lib.hid (okSt_small (past_ok o1 k hlt))
  obtain ⟨ad1, cs1, rfl, r1, g1⟩ := cellsAt_of_row h13 k hlt
  have G1 := Lib.hid (fun (W : World) (f : Fr w W) => g1.fr f)
  have Q1 := Lib.hid (fun (W : World) (f : Fr w W) => tSt.fr f r1)
  have N1 := Lib.hid (show cs1.length = 7 from tSt.len r1)
  have d1 : decide ((k : Int) + 1 < 1) = false := decide_eq_false (by omega)
  have d2 : decide ((c.past.length : Int) < (k : Int) + 1) = false := decide_eq_false (by omega)
  have p0 : (0 : Int) ≤ (k : Int) := Int.natCast_nonneg _
  have p1 : (k : Int) < (c.past.length : Int) := by omega
  have w1 : IntKind.i64.wrap ((k : Int) + 1 - 1) = (k : Int) := by rw [Int.add_sub_cancel]; exact IntWalk.i64_in _ (by omega)
  have w2 : IntKind.i64.wrap (k : Int) = (k : Int) := IntWalk.i64_in _ (by omega)
  clear o1 e1 e2 bh g1 r1
  go_enter Try.func42, Try.ntmps42
  go_wp2_with (first
    | (go_at_call 19; (with_reducible refine (ChainOk_r _ c _ (FIN.out _ S.frame) O1.out).mono ?_); rintro e w9 ⟨rfl, f9⟩; replace S := S.fr f9; clear f9)
    | ((with_reducible refine gate_dst (N := 26) rfl ?_); refine aRw (G1.out _ S.frame) ?_ (hn := N1.out))
    | (go_at_call 95; (with_reducible refine (stateCopy_c _ _ _ (Q1.out _ S.frame) SB.out).mono ?_); rintro e w9 ⟨cs9, F9, rfl, h9, n9, b9, f9⟩; replace S := S.new (aOwn tSt _ cs9 F9) h9 n9 b9 f9; clear h9 n9 b9 f9)
    | ((with_reducible refine gate_box rfl ?_); refine aBx S ?_; clear S; intro g9 w9 z9 S) | ((with_reducible refine gate_alloc rfl ?_); refine aAl S ?_; clear S; intro g9 w9 z9 S) | ((with_reducible refine gate_load rfl ?_); first | refine aLd S ?_ | refine aPt S ?_ | refine aL1 S ?_) | ((with_reducible refine gate_st rfl ?_); (first | refine aS1 S ?_ | refine aSt S ?_ | refine aSp S ?_); clear S; intro w9 S))
  (refine Sep.ret1_1 S rfl rfl memA Try.underlying30 rfl ts30 rfl rfl ?_)
  rw [R.out]
  exact S.retOwn2 memA
set_option maxHeartbeats 3200000 in
theorem sChainAt_c (w : World) (c : Ch) (c1 : List Value) (h1 : tCh.rd w c c1) (h : Int) (bh : I64 h) : Calls Try.prog 41 #[.agg c1.toArray, .int .i64 h] w (RetOwn2 tSt (atV c h) w) := by
  have S := Sep.start w
  cases o1 : okCh c with
  | false =>
    have FIN := Lib.hid (fun (W : World) (f : Fr w W) => tCh.fr f h1)
    have R := Lib.hid (atV_no (c := c) (h := h) (by rw [o1]; simp))
    have LN := Lib.hid (show c1.length = 13 from tCh.len h1)
    have O1 := Lib.hid o1
    clear o1 h1 bh
    go_enter Try.func41, Try.ntmps41
    go_wp2_with (first
      | (go_at_call 33; (with_reducible refine (sChainOk_r _ c _ (FIN.out _ S.frame) O1.out).mono ?_); rintro e w9 ⟨rfl, f9⟩; replace S := S.fr f9; clear f9)
      | ((with_reducible refine gate_box rfl ?_); refine aBx S ?_; clear S; intro g9 w9 z9 S) | ((with_reducible refine gate_alloc rfl ?_); refine aAl S ?_; clear S; intro g9 w9 z9 S) | ((with_reducible refine gate_load rfl ?_); first | refine aLd S ?_ | refine aPt S ?_ | refine aL1 S ?_) | ((with_reducible refine gate_st rfl ?_); (first | refine aS1 S ?_ | refine aSt S ?_ | refine aSp S ?_); clear S; intro w9 S))
    have S' := S.zStS
    (refine Sep.ret1_1 S rfl rfl memA Try.underlying30 rfl ts30 rfl rfl ?_)
    rw [R.out]
    exact S'.retOwn2 List.mem_cons_self
  | true =>
  obtain ⟨b1, b2, s1, s2, s3, s4, v1, v2, rfl, h11, h12, h13, h14, h15⟩ := id h1
  obtain ⟨A1, n1, rfl⟩ := h13.val
  have FIN := Lib.hid (fun (W : World) (f : Fr w W) => tCh.fr f h1)
  have hl := (okCh_parts o1).2.2.2.1
  have O1 := Lib.hid o1
  clear h1 h11 h12 h14 h15
  by_cases e1 : 1 ≤ h
  case neg =>
    have R := Lib.hid (atV_no (c := c) (h := h) (by omega))
    have HI := Lib.hid (show decide (1 ≤ h ∧ h ≤ (c.past.length : Int)) = false by simp; omega)
    clear o1
    go_enter Try.func41, Try.ntmps41
    go_wp2_with (first
      | (go_at_call 33; (with_reducible refine (sChainOk_r _ c _ (FIN.out _ S.frame) O1.out).mono ?_); rintro e w9 ⟨rfl, f9⟩; replace S := S.fr f9; clear f9)
      | (go_at_call 61; (with_reducible refine (l6In_e _ h 1 _ HI.out).mono ?_); rintro e w9 ⟨rfl, rfl⟩)
      | ((with_reducible refine gate_box rfl ?_); refine aBx S ?_; clear S; intro g9 w9 z9 S) | ((with_reducible refine gate_alloc rfl ?_); refine aAl S ?_; clear S; intro g9 w9 z9 S) | ((with_reducible refine gate_load rfl ?_); first | refine aLd S ?_ | refine aPt S ?_ | refine aL1 S ?_) | ((with_reducible refine gate_st rfl ?_); (first | refine aS1 S ?_ | refine aSt S ?_ | refine aSp S ?_); clear S; intro w9 S))
    have S' := S.zStS
    (refine Sep.ret1_1 S rfl rfl memA Try.underlying30 rfl ts30 rfl rfl ?_)
    rw [R.out]
    exact S'.retOwn2 List.mem_cons_self
  by_cases e2 : h ≤ c.past.length
  case neg =>
    have R := Lib.hid (atV_no (c := c) (h := h) (by omega))
    have HI := Lib.hid (show decide (1 ≤ h ∧ h ≤ (c.past.length : Int)) = false by simp; omega)
    clear o1
    go_enter Try.func41, Try.ntmps41
    go_wp2_with (first
      | (go_at_call 33; (with_reducible refine (sChainOk_r _ c _ (FIN.out _ S.frame) O1.out).mono ?_); rintro e w9 ⟨rfl, f9⟩; replace S := S.fr f9; clear f9)
      | (go_at_call 61; (with_reducible refine (l6In_e _ h 1 _ HI.out).mono ?_); rintro e w9 ⟨rfl, rfl⟩)
      | ((with_reducible refine gate_box rfl ?_); refine aBx S ?_; clear S; intro g9 w9 z9 S) | ((with_reducible refine gate_alloc rfl ?_); refine aAl S ?_; clear S; intro g9 w9 z9 S) | ((with_reducible refine gate_load rfl ?_); first | refine aLd S ?_ | refine aPt S ?_ | refine aL1 S ?_) | ((with_reducible refine gate_st rfl ?_); (first | refine aS1 S ?_ | refine aSt S ?_ | refine aSp S ?_); clear S; intro w9 S))
    have S' := S.zStS
    (refine Sep.ret1_1 S rfl rfl memA Try.underlying30 rfl ts30 rfl rfl ?_)
    rw [R.out]
    exact S'.retOwn2 List.mem_cons_self
  obtain ⟨k, rfl⟩ : ∃ k : Nat, h = (k : Int) + 1 := ⟨(h - 1).toNat, by omega⟩
  have hlt : k < c.past.length := by omega
  have R := Lib.hid (atV_yes o1 hlt)
  have SB := Lib.hid (okSt_small (past_ok o1 k hlt))
  obtain ⟨ad1, cs1, rfl, r1, g1⟩ := cellsAt_of_row h13 k hlt
  have G1 := Lib.hid (fun (W : World) (f : Fr w W) => g1.fr f)
  have Q1 := Lib.hid (fun (W : World) (f : Fr w W) => tSt.fr f r1)
  have N1 := Lib.hid (show cs1.length = 7 from tSt.len r1)
  have HI := Lib.hid (show decide (1 ≤ (k : Int) + 1 ∧ (k : Int) + 1 ≤ (c.past.length : Int)) = true by simp; omega)
  have p0 : (0 : Int) ≤ (k : Int) := Int.natCast_nonneg _
  have p1 : (k : Int) < (c.past.length : Int) := by omega
  have w1 : IntKind.i64.wrap ((k : Int) + 1 - 1) = (k : Int) := by rw [Int.add_sub_cancel]; exact IntWalk.i64_in _ (by omega)
  have w2 : IntKind.i64.wrap (k : Int) = (k : Int) := IntWalk.i64_in _ (by omega)
  clear o1 e1 e2 bh g1 r1
  go_enter Try.func41, Try.ntmps41
  go_wp2_with (first
    | (go_at_call 33; (with_reducible refine (sChainOk_r _ c _ (FIN.out _ S.frame) O1.out).mono ?_); rintro e w9 ⟨rfl, f9⟩; replace S := S.fr f9; clear f9)
    | (go_at_call 61; (with_reducible refine (l6In_e _ ((k : Int) + 1) 1 _ HI.out).mono ?_); rintro e w9 ⟨rfl, rfl⟩)
    | ((with_reducible refine gate_dst (N := 23) rfl ?_); refine aRw (G1.out _ S.frame) ?_ (hn := N1.out))
    | (go_at_call 94; (with_reducible refine (l3Copy_c _ _ _ (Q1.out _ S.frame) SB.out).mono ?_); rintro e w9 ⟨cs9, F9, rfl, h9, n9, b9, f9⟩; replace S := S.new (aOwn tSt _ cs9 F9) h9 n9 b9 f9; clear h9 n9 b9 f9)
    | ((with_reducible refine gate_box rfl ?_); refine aBx S ?_; clear S; intro g9 w9 z9 S) | ((with_reducible refine gate_alloc rfl ?_); refine aAl S ?_; clear S; intro g9 w9 z9 S) | ((with_reducible refine gate_load rfl ?_); first | refine aLd S ?_ | refine aPt S ?_ | refine aL1 S ?_) | ((with_reducible refine gate_st rfl ?_); (first | refine aS1 S ?_ | refine aSt S ?_ | refine aSp S ?_); clear S; intro w9 S))
  (refine Sep.ret1_1 S rfl rfl memA Try.underlying30 rfl ts30 rfl rfl ?_)
  rw [R.out]
  exact S.retOwn2 memA
theorem ChainAt_e (w : World) (c : Ch) (c1 : List Value) (h1 : tCh.rd w c c1) (h : Int) (bh : I64 h) {x : St} {ok : Bool} (hR : atV c h = (x, ok)) : Calls Try.prog 42 #[.agg c1.toArray, .int .i64 h] w (RetOwn2 tSt (x, ok) w) := hR ▸ ChainAt_c w c c1 h1 h bh
theorem sChainAt_e (w : World) (c : Ch) (c1 : List Value) (h1 : tCh.rd w c c1) (h : Int) (bh : I64 h) {x : St} {ok : Bool} (hR : atV c h = (x, ok)) : Calls Try.prog 41 #[.agg c1.toArray, .int .i64 h] w (RetOwn2 tSt (x, ok) w) := hR ▸ sChainAt_c w c c1 h1 h bh
theorem okSt_Small {s : St} (h : okSt s = true) : Small s := okSt_small h
theorem atV_small {c : Ch} {h : Int} {x : St} {ok : Bool} (hR : atV c h = (x, ok)) : Small x := by
  unfold atV at hR
  split at hR
  · rename_i hc
    simp only [Prod.mk.injEq] at hR
    rw [← hR.1]
    have hk : (h - 1).toNat < c.past.length := by omega
    rw [List.getD_eq_getElem?_getD, List.getElem?_eq_getElem hk]
    exact okSt_Small (past_ok hc.1 _ hk)
  · simp only [Prod.mk.injEq] at hR
    rw [← hR.1]
    simp [Small, zStS]
end Go.Proofs.Ytapdcgjccckjeaa
