/- The program's and the reference's WorldOk. -/
import Derived.Test.YtapdcgjccckjeaaWd
import Derived.Test.YtapdcgjccckjeaaChNext
namespace Go.Proofs.Ytapdcgjccckjeaa
set_option maxRecDepth 100000
set_option linter.unusedVariables false
set_option linter.unusedSimpArgs false
open Go.RowKit
def wAt (c : Ch) (i : Int) (n : Nat) : Bool := okCh c && (decide (c.id = i) && decide (prevK c.knows c.knows.length ≤ (n : Int)))
def okWd (x : Wd) : Bool := match x.chains with
  | [a, b] => wAt a 1 b.past.length && wAt b 2 a.past.length
  | _ => false
theorem okWd_two (a b : Ch) : okWd ⟨[a, b]⟩ = (wAt a 1 b.past.length && wAt b 2 a.past.length) := rfl
theorem okWd_len {xs : List Ch} (h : ¬ xs.length = 2) : okWd ⟨xs⟩ = false := by
  match xs, h with
  | [], _ => rfl
  | [_], _ => rfl
  | [_, _], h => exact absurd rfl h
  | _ :: _ :: _ :: _, _ => rfl
theorem wAt_ok {c : Ch} {i : Int} {n : Nat} (h : okCh c = false) : wAt c i n = false := by unfold wAt; rw [h]; rfl
theorem wAt_id {c : Ch} {i : Int} {n : Nat} (h : ¬ c.id = i) : wAt c i n = false := by unfold wAt; rw [decide_eq_false h, Bool.false_and, Bool.and_false]
theorem wAt_nil {c : Ch} {i : Int} {n : Nat} (h1 : okCh c = true) (h2 : c.id = i) (h3 : c.knows.length = 0) : wAt c i n = true := by
  unfold wAt
  rw [h1, decide_eq_true h2, h3, Bool.true_and, Bool.true_and]
  exact decide_eq_true (by unfold prevK; simp)
theorem wAt_last {c : Ch} {i : Int} {n m : Nat} {x : Int} (h1 : okCh c = true) (h2 : c.id = i) (h3 : c.knows.length = m + 1) (hm : m < c.knows.length) (hx : c.knows[m] = x) : wAt c i n = decide (x ≤ (n : Int)) := by
  unfold wAt
  rw [h1, decide_eq_true h2, h3, Bool.true_and, Bool.true_and, prevK_succ (by omega), hx]
theorem tCh_rd_one {w : World} {c : Ch} {cs : List Value} (h : tCh.rd w c cs) : ∀ u ∈ cs, u.oneCell' = true := by
  obtain ⟨b1, b2, s1, s2, s3, s4, v1, v2, rfl, h1, h2, h3, h4, _⟩ := h
  obtain ⟨r1, r2, _⟩ := tBk_rows h1
  obtain ⟨q1, q2, q3, q4, _⟩ := tSt_rows h2
  obtain ⟨_, _, rfl, _⟩ := h3
  obtain ⟨_, _, rfl, _⟩ := h4
  obtain ⟨_, _, rfl, _⟩ := r1
  obtain ⟨_, _, rfl, _⟩ := r2
  obtain ⟨_, _, rfl, _⟩ := q1
  obtain ⟨_, _, rfl, _⟩ := q2
  obtain ⟨_, _, rfl, _⟩ := q3
  obtain ⟨_, _, rfl, _⟩ := q4
  intro u hu
  simp only [List.mem_cons, List.not_mem_nil, or_false] at hu
  rcases hu with rfl | rfl | rfl | rfl | rfl | rfl | rfl | rfl | rfl | rfl | rfl | rfl | rfl
  all_goals rfl
theorem len_two {xs : List Ch} (h : xs.length = 2) : ∃ a b, xs = [a, b] := by
  match xs, h with
  | [a, b], _ => exact ⟨a, b, rfl⟩
set_option maxHeartbeats 6400000 in
theorem WorldOk_c (w : World) (x : Wd) (c1 : List Value) (h1 : tWd.rd w x c1) : Calls Try.prog 40 #[.agg c1.toArray] w (Ret (.bool (okWd x)) w) := by
  obtain ⟨xs⟩ := x
  obtain ⟨v1, rfl, h1⟩ := h1
  dsimp only at h1
  obtain ⟨A, n, rfl⟩ := h1.val
  have S := Sep.start w
  by_cases hl : xs.length = 2
  case neg =>
    have R := Lib.hid (okWd_len hl)
    have d1 : ((xs.length : Int) != 2) = true := by simp; omega
    clear hl
    go_enter Try.func40, Try.ntmps40
    go_wp2_with (first | ((with_reducible refine gate_box rfl ?_); refine aBx S ?_; clear S; intro g9 w9 z9 S) | ((with_reducible refine gate_alloc rfl ?_); refine aAl S ?_; clear S; intro g9 w9 z9 S) | ((with_reducible refine gate_load rfl ?_); first | refine aLd S ?_ | refine aPt S ?_ | refine aL1 S ?_) | ((with_reducible refine gate_st rfl ?_); (first | refine aS1 S ?_ | refine aSt S ?_ | refine aSp S ?_); clear S; intro w9 S))
    go_ret
    exact ⟨ret_bool R.out.symm, S.frame⟩
  obtain ⟨a, b, rfl⟩ := len_two hl
  have R0 := Lib.hid (okWd_two a b)
  obtain ⟨ad, ca, rfl, rA, gA⟩ := cellsAt_of_row h1 0 (by simp)
  obtain ⟨ad', cb, e9, rB, gB⟩ := cellsAt_of_row h1 1 (by simp)
  cases e9
  replace rA : tCh.rd w a ca := rA
  replace rB : tCh.rd w b cb := rB
  replace gA : CellsAt w (ad.add 0) ca := by simpa using gA
  replace gB : CellsAt w (ad.add 13) cb := by simpa [tCh] using gB
  have FINa := Lib.hid (fun (W : World) (f : Fr w W) => tCh.fr f rA)
  have FINb := Lib.hid (fun (W : World) (f : Fr w W) => tCh.fr f rB)
  obtain ⟨a1, a2, a3, a4, a5, a6, va, ua, rfl, _, _, ha13, ha14, _⟩ := id rA
  obtain ⟨b1, b2, b3, b4, b5, b6, vb, ub, rfl, _, _, hb13, hb14, _⟩ := id rB
  obtain ⟨Aa, na, rfl⟩ := ha13.val
  obtain ⟨Ba, ma, rfl⟩ := ha14.val
  obtain ⟨Ab, nb, rfl⟩ := hb13.val
  obtain ⟨Bb, mb, rfl⟩ := hb14.val
  have bpa := ha13.le
  have bpb := hb13.le
  have bka := ha14.le
  have bkb := hb14.le
  have oA := tCh_rd_one rA
  have oB := tCh_rd_one rB
  have wk0 : IntKind.i64.wrap 0 = 0 := IntWalk.i64_in _ (by omega)
  have wk1 : IntKind.i64.wrap 1 = 1 := IntWalk.i64_in _ (by omega)
  have wk2 : IntKind.i64.wrap 2 = 2 := IntWalk.i64_in _ (by omega)
  clear rA rB h1 hl
  go_enter Try.func40, Try.ntmps40
  go_wp2_with (first | ((with_reducible refine gate_dst (N := 1) rfl ?_); refine aBx S ?_; clear S; intro gW w9 z9 S) | ((with_reducible refine gate_box rfl ?_); refine aBx S ?_; clear S; intro g9 w9 z9 S) | ((with_reducible refine gate_alloc rfl ?_); refine aAl S ?_; clear S; intro g9 w9 z9 S) | ((with_reducible refine gate_load rfl ?_); first | refine aLd S ?_ | refine aPt S ?_ | refine aL1 S ?_) | ((with_reducible refine gate_st rfl ?_); (first | refine aS1 S ?_ | refine aSt S ?_ | refine aSp S ?_); clear S; intro w9 S))
  go_loopw [13] (fun i wr => ∃ k : Nat, k ≤ 2 ∧ i = .int .i64 k ∧ (0 < k → wAt a 1 b.past.length = true) ∧ (1 < k → wAt b 2 a.past.length = true) ∧ Sep [] w [aBox gW 47 1 _] wr) (fun i _ => 2 - (intOf i).toNat)
  case atStart => exact ⟨0, by decide, rfl, fun h => absurd h (by decide), fun h => absurd h (by decide), S⟩
  case round =>
    clear S
    obtain ⟨k, hk, rfl, a0, a1', S⟩ := hrel
    have A0 := Lib.hid a0
    have A1 := Lib.hid a1'
    clear a0 a1'
    obtain rfl | rfl | rfl : k = 0 ∨ k = 1 ∨ k = 2 := by omega
    · have G1 := Lib.hid gA
      have P1 := Lib.hid (show w.cell? ((ad.add 13).add 11) = some (.slice Ab b.past.length nb) from gB.at_ 11 rfl)
      have hk0 : (0 : Int) ≤ (b.past.length : Int) := Int.natCast_nonneg _
      by_cases e1 : a.id = 1
      case neg =>
        have R := Lib.hid (show false = okWd ⟨[a, b]⟩ by rw [R0.out, wAt_id e1, Bool.false_and])
        have d1 : (a.id != 1) = true := by simpa using e1
        clear e1 gA gB
        go_wp2_with (first
          | ((with_reducible refine gate_dst (N := 17) rfl ?_); refine aRw (G1.out.fr S.frame) ?_)
          | ((with_reducible refine gate_box rfl ?_); refine aBx S ?_; clear S; intro g9 w9 z9 S) | ((with_reducible refine gate_alloc rfl ?_); refine aAl S ?_; clear S; intro g9 w9 z9 S) | ((with_reducible refine gate_load rfl ?_); first | refine aLd S ?_ | refine aPt S ?_ | refine aL1 S ?_) | ((with_reducible refine gate_st rfl ?_); (first | refine aS1 S ?_ | refine aSt S ?_ | refine aSp S ?_); clear S; intro w9 S))
        go_ret
        exact ⟨ret_bool R.out, S.frame⟩
      have d1 : (a.id != 1) = false := by simpa using e1
      have E1 := Lib.hid e1
      clear e1
      cases o1 : okCh a with
      | false =>
        have R := Lib.hid (show false = okWd ⟨[a, b]⟩ by rw [R0.out, wAt_ok o1, Bool.false_and])
        have O1 := Lib.hid o1
        clear o1 gA gB
        go_wp2_with (first
          | ((with_reducible refine gate_dst (N := 17) rfl ?_); refine aRw (G1.out.fr S.frame) ?_)
          | (go_at_call 19; (with_reducible refine (ChainOk_r _ a _ (FINa.out _ S.frame) O1.out).mono ?_); rintro e w9 ⟨rfl, f9⟩; replace S := S.fr f9; clear f9)
          | ((with_reducible refine gate_box rfl ?_); refine aBx S ?_; clear S; intro g9 w9 z9 S) | ((with_reducible refine gate_alloc rfl ?_); refine aAl S ?_; clear S; intro g9 w9 z9 S) | ((with_reducible refine gate_load rfl ?_); first | refine aLd S ?_ | refine aPt S ?_ | refine aL1 S ?_) | ((with_reducible refine gate_st rfl ?_); (first | refine aS1 S ?_ | refine aSt S ?_ | refine aSp S ?_); clear S; intro w9 S))
        go_ret
        exact ⟨ret_bool R.out, S.frame⟩
      | true =>
      have O1 := Lib.hid o1
      clear o1
      rcases hm : a.knows.length with _ | m
      · have R := Lib.hid (wAt_nil (n := b.past.length) O1.out E1.out hm)
        have d2 : decide ((0 : Int) < (a.knows.length : Int)) = false := decide_eq_false (by omega)
        have d2n : decide (0 < a.knows.length) = false := decide_eq_false (by omega)
        clear hm gA gB
        go_wp2_with (first
          | ((with_reducible refine gate_dst (N := 17) rfl ?_); refine aRw (G1.out.fr S.frame) ?_)
          | (go_at_call 19; (with_reducible refine (ChainOk_r _ a _ (FINa.out _ S.frame) O1.out).mono ?_); rintro e w9 ⟨rfl, f9⟩; replace S := S.fr f9; clear f9)
          | ((with_reducible refine gate_dst (N := 34) rfl ?_); go_loud (refine aRc (S.frame.cell P1.out) ?_))
          | ((with_reducible refine gate_box rfl ?_); refine aBx S ?_; clear S; intro g9 w9 z9 S) | ((with_reducible refine gate_alloc rfl ?_); refine aAl S ?_; clear S; intro g9 w9 z9 S) | ((with_reducible refine gate_load rfl ?_); first | refine aLd S ?_ | refine aPt S ?_ | refine aL1 S ?_) | ((with_reducible refine gate_st rfl ?_); (first | refine aS1 S ?_ | refine aSt S ?_ | refine aSp S ?_); clear S; intro w9 S))
        go_roundw
        case rel => exact ⟨1, by omega, rfl, fun _ => R.out, fun h => absurd h (by decide), (Sep.only1 (a1 := aBox gW _ _ _) S delA)⟩
        case measure => decide
      · have hlt : m < a.knows.length := by omega
        obtain ⟨ad2, e2, g2⟩ := row_int_at ha14 m hlt
        cases e2
        obtain ⟨y, hy⟩ : ∃ y, a.knows[m] = y := ⟨_, rfl⟩
        have R1 := Lib.hid (wAt_last (n := b.past.length) O1.out E1.out hm hlt hy)
        rw [hy] at g2
        have K1 := Lib.hid g2
        have d2 : decide ((0 : Int) < (a.knows.length : Int)) = true := decide_eq_true (by omega)
        have d2n : decide (0 < a.knows.length) = true := decide_eq_true (by omega)
        have q0 : (0 : Int) ≤ (m : Int) := Int.natCast_nonneg _
        have q1 : (m : Int) < (a.knows.length : Int) := by omega
        have w1 : IntKind.i64.wrap ((a.knows.length : Int) - 1) = (m : Int) := by rw [show (a.knows.length : Int) - 1 = (m : Int) by omega]; exact IntWalk.i64_in _ (by omega)
        clear g2 hy hm gA gB
        by_cases e3 : y ≤ (b.past.length : Int)
        · have R := Lib.hid (R1.out.trans (decide_eq_true e3))
          have d3 : decide ((b.past.length : Int) < y) = false := decide_eq_false (by omega)
          clear e3
          go_wp2_with (first
            | ((with_reducible refine gate_dst (N := 17) rfl ?_); refine aRw (G1.out.fr S.frame) ?_)
            | (go_at_call 19; (with_reducible refine (ChainOk_r _ a _ (FINa.out _ S.frame) O1.out).mono ?_); rintro e w9 ⟨rfl, f9⟩; replace S := S.fr f9; clear f9)
            | ((with_reducible refine gate_dst (N := 34) rfl ?_); go_loud (refine aRc (S.frame.cell P1.out) ?_))
            | ((with_reducible refine gate_dst (N := 48) rfl ?_); go_loud (refine aRc (S.frame.cell K1.out) ?_))
            | ((with_reducible refine gate_box rfl ?_); refine aBx S ?_; clear S; intro g9 w9 z9 S) | ((with_reducible refine gate_alloc rfl ?_); refine aAl S ?_; clear S; intro g9 w9 z9 S) | ((with_reducible refine gate_load rfl ?_); first | refine aLd S ?_ | refine aPt S ?_ | refine aL1 S ?_) | ((with_reducible refine gate_st rfl ?_); (first | refine aS1 S ?_ | refine aSt S ?_ | refine aSp S ?_); clear S; intro w9 S))
          go_roundw
          case rel => exact ⟨1, by omega, rfl, fun _ => R.out, fun h => absurd h (by decide), (Sep.only1 (a1 := aBox gW _ _ _) S delA)⟩
          case measure => decide
        · have R := Lib.hid (show false = okWd ⟨[a, b]⟩ by rw [R0.out, R1.out.trans (decide_eq_false e3), Bool.false_and])
          have d3 : decide ((b.past.length : Int) < y) = true := decide_eq_true (by omega)
          clear e3
          go_wp2_with (first
            | ((with_reducible refine gate_dst (N := 17) rfl ?_); refine aRw (G1.out.fr S.frame) ?_)
            | (go_at_call 19; (with_reducible refine (ChainOk_r _ a _ (FINa.out _ S.frame) O1.out).mono ?_); rintro e w9 ⟨rfl, f9⟩; replace S := S.fr f9; clear f9)
            | ((with_reducible refine gate_dst (N := 34) rfl ?_); go_loud (refine aRc (S.frame.cell P1.out) ?_))
            | ((with_reducible refine gate_dst (N := 48) rfl ?_); go_loud (refine aRc (S.frame.cell K1.out) ?_))
            | ((with_reducible refine gate_box rfl ?_); refine aBx S ?_; clear S; intro g9 w9 z9 S) | ((with_reducible refine gate_alloc rfl ?_); refine aAl S ?_; clear S; intro g9 w9 z9 S) | ((with_reducible refine gate_load rfl ?_); first | refine aLd S ?_ | refine aPt S ?_ | refine aL1 S ?_) | ((with_reducible refine gate_st rfl ?_); (first | refine aS1 S ?_ | refine aSt S ?_ | refine aSp S ?_); clear S; intro w9 S))
          go_ret
          exact ⟨ret_bool R.out, S.frame⟩
    · have G1 := Lib.hid gB
      have P1 := Lib.hid (show w.cell? ((ad.add 0).add 11) = some (.slice Aa a.past.length na) from gA.at_ 11 rfl)
      have hk0 : (0 : Int) ≤ (a.past.length : Int) := Int.natCast_nonneg _
      by_cases e1 : b.id = 2
      case neg =>
        have R := Lib.hid (show false = okWd ⟨[a, b]⟩ by rw [R0.out, wAt_id e1, Bool.and_false])
        have d1 : (b.id != 2) = true := by simpa using e1
        clear e1 gA gB
        go_wp2_with (first
          | ((with_reducible refine gate_dst (N := 17) rfl ?_); refine aRw (G1.out.fr S.frame) ?_)
          | ((with_reducible refine gate_box rfl ?_); refine aBx S ?_; clear S; intro g9 w9 z9 S) | ((with_reducible refine gate_alloc rfl ?_); refine aAl S ?_; clear S; intro g9 w9 z9 S) | ((with_reducible refine gate_load rfl ?_); first | refine aLd S ?_ | refine aPt S ?_ | refine aL1 S ?_) | ((with_reducible refine gate_st rfl ?_); (first | refine aS1 S ?_ | refine aSt S ?_ | refine aSp S ?_); clear S; intro w9 S))
        go_ret
        exact ⟨ret_bool R.out, S.frame⟩
      have d1 : (b.id != 2) = false := by simpa using e1
      have E1 := Lib.hid e1
      clear e1
      cases o1 : okCh b with
      | false =>
        have R := Lib.hid (show false = okWd ⟨[a, b]⟩ by rw [R0.out, wAt_ok o1, Bool.and_false])
        have O1 := Lib.hid o1
        clear o1 gA gB
        go_wp2_with (first
          | ((with_reducible refine gate_dst (N := 17) rfl ?_); refine aRw (G1.out.fr S.frame) ?_)
          | (go_at_call 19; (with_reducible refine (ChainOk_r _ b _ (FINb.out _ S.frame) O1.out).mono ?_); rintro e w9 ⟨rfl, f9⟩; replace S := S.fr f9; clear f9)
          | ((with_reducible refine gate_box rfl ?_); refine aBx S ?_; clear S; intro g9 w9 z9 S) | ((with_reducible refine gate_alloc rfl ?_); refine aAl S ?_; clear S; intro g9 w9 z9 S) | ((with_reducible refine gate_load rfl ?_); first | refine aLd S ?_ | refine aPt S ?_ | refine aL1 S ?_) | ((with_reducible refine gate_st rfl ?_); (first | refine aS1 S ?_ | refine aSt S ?_ | refine aSp S ?_); clear S; intro w9 S))
        go_ret
        exact ⟨ret_bool R.out, S.frame⟩
      | true =>
      have O1 := Lib.hid o1
      clear o1
      rcases hm : b.knows.length with _ | m
      · have R := Lib.hid (wAt_nil (n := a.past.length) O1.out E1.out hm)
        have d2 : decide ((0 : Int) < (b.knows.length : Int)) = false := decide_eq_false (by omega)
        have d2n : decide (0 < b.knows.length) = false := decide_eq_false (by omega)
        clear hm gA gB
        go_wp2_with (first
          | ((with_reducible refine gate_dst (N := 17) rfl ?_); refine aRw (G1.out.fr S.frame) ?_)
          | (go_at_call 19; (with_reducible refine (ChainOk_r _ b _ (FINb.out _ S.frame) O1.out).mono ?_); rintro e w9 ⟨rfl, f9⟩; replace S := S.fr f9; clear f9)
          | ((with_reducible refine gate_dst (N := 34) rfl ?_); go_loud (refine aRc (S.frame.cell P1.out) ?_))
          | ((with_reducible refine gate_box rfl ?_); refine aBx S ?_; clear S; intro g9 w9 z9 S) | ((with_reducible refine gate_alloc rfl ?_); refine aAl S ?_; clear S; intro g9 w9 z9 S) | ((with_reducible refine gate_load rfl ?_); first | refine aLd S ?_ | refine aPt S ?_ | refine aL1 S ?_) | ((with_reducible refine gate_st rfl ?_); (first | refine aS1 S ?_ | refine aSt S ?_ | refine aSp S ?_); clear S; intro w9 S))
        go_roundw
        case rel => exact ⟨2, by omega, rfl, fun _ => A0.out (by decide), fun _ => R.out, (Sep.only1 (a1 := aBox gW _ _ _) S delA)⟩
        case measure => decide
      · have hlt : m < b.knows.length := by omega
        obtain ⟨ad2, e2, g2⟩ := row_int_at hb14 m hlt
        cases e2
        obtain ⟨y, hy⟩ : ∃ y, b.knows[m] = y := ⟨_, rfl⟩
        have R1 := Lib.hid (wAt_last (n := a.past.length) O1.out E1.out hm hlt hy)
        rw [hy] at g2
        have K1 := Lib.hid g2
        have d2 : decide ((0 : Int) < (b.knows.length : Int)) = true := decide_eq_true (by omega)
        have d2n : decide (0 < b.knows.length) = true := decide_eq_true (by omega)
        have q0 : (0 : Int) ≤ (m : Int) := Int.natCast_nonneg _
        have q1 : (m : Int) < (b.knows.length : Int) := by omega
        have w1 : IntKind.i64.wrap ((b.knows.length : Int) - 1) = (m : Int) := by rw [show (b.knows.length : Int) - 1 = (m : Int) by omega]; exact IntWalk.i64_in _ (by omega)
        clear g2 hy hm gA gB
        by_cases e3 : y ≤ (a.past.length : Int)
        · have R := Lib.hid (R1.out.trans (decide_eq_true e3))
          have d3 : decide ((a.past.length : Int) < y) = false := decide_eq_false (by omega)
          clear e3
          go_wp2_with (first
            | ((with_reducible refine gate_dst (N := 17) rfl ?_); refine aRw (G1.out.fr S.frame) ?_)
            | (go_at_call 19; (with_reducible refine (ChainOk_r _ b _ (FINb.out _ S.frame) O1.out).mono ?_); rintro e w9 ⟨rfl, f9⟩; replace S := S.fr f9; clear f9)
            | ((with_reducible refine gate_dst (N := 34) rfl ?_); go_loud (refine aRc (S.frame.cell P1.out) ?_))
            | ((with_reducible refine gate_dst (N := 48) rfl ?_); go_loud (refine aRc (S.frame.cell K1.out) ?_))
            | ((with_reducible refine gate_box rfl ?_); refine aBx S ?_; clear S; intro g9 w9 z9 S) | ((with_reducible refine gate_alloc rfl ?_); refine aAl S ?_; clear S; intro g9 w9 z9 S) | ((with_reducible refine gate_load rfl ?_); first | refine aLd S ?_ | refine aPt S ?_ | refine aL1 S ?_) | ((with_reducible refine gate_st rfl ?_); (first | refine aS1 S ?_ | refine aSt S ?_ | refine aSp S ?_); clear S; intro w9 S))
          go_roundw
          case rel => exact ⟨2, by omega, rfl, fun _ => A0.out (by decide), fun _ => R.out, (Sep.only1 (a1 := aBox gW _ _ _) S delA)⟩
          case measure => decide
        · have R := Lib.hid (show false = okWd ⟨[a, b]⟩ by rw [R0.out, R1.out.trans (decide_eq_false e3), Bool.and_false])
          have d3 : decide ((a.past.length : Int) < y) = true := decide_eq_true (by omega)
          clear e3
          go_wp2_with (first
            | ((with_reducible refine gate_dst (N := 17) rfl ?_); refine aRw (G1.out.fr S.frame) ?_)
            | (go_at_call 19; (with_reducible refine (ChainOk_r _ b _ (FINb.out _ S.frame) O1.out).mono ?_); rintro e w9 ⟨rfl, f9⟩; replace S := S.fr f9; clear f9)
            | ((with_reducible refine gate_dst (N := 34) rfl ?_); go_loud (refine aRc (S.frame.cell P1.out) ?_))
            | ((with_reducible refine gate_dst (N := 48) rfl ?_); go_loud (refine aRc (S.frame.cell K1.out) ?_))
            | ((with_reducible refine gate_box rfl ?_); refine aBx S ?_; clear S; intro g9 w9 z9 S) | ((with_reducible refine gate_alloc rfl ?_); refine aAl S ?_; clear S; intro g9 w9 z9 S) | ((with_reducible refine gate_load rfl ?_); first | refine aLd S ?_ | refine aPt S ?_ | refine aL1 S ?_) | ((with_reducible refine gate_st rfl ?_); (first | refine aS1 S ?_ | refine aSt S ?_ | refine aSp S ?_); clear S; intro w9 S))
          go_ret
          exact ⟨ret_bool R.out, S.frame⟩
    · have R := Lib.hid (show true = okWd ⟨[a, b]⟩ by rw [R0.out, A0.out (by decide), A1.out (by decide)]; rfl)
      go_wp2_with (first | ((with_reducible refine gate_box rfl ?_); refine aBx S ?_; clear S; intro g9 w9 z9 S) | ((with_reducible refine gate_alloc rfl ?_); refine aAl S ?_; clear S; intro g9 w9 z9 S) | ((with_reducible refine gate_load rfl ?_); first | refine aLd S ?_ | refine aPt S ?_ | refine aL1 S ?_) | ((with_reducible refine gate_st rfl ?_); (first | refine aS1 S ?_ | refine aSt S ?_ | refine aSp S ?_); clear S; intro w9 S))
      go_ret
      exact ⟨ret_bool R.out, S.frame⟩
set_option maxHeartbeats 6400000 in
theorem sWorldOk_c (w : World) (x : Wd) (c1 : List Value) (h1 : tWd.rd w x c1) : Calls Try.prog 38 #[.agg c1.toArray] w (Ret (.bool (okWd x)) w) := by
  obtain ⟨xs⟩ := x
  obtain ⟨v1, rfl, h1⟩ := h1
  dsimp only at h1
  obtain ⟨A, n, rfl⟩ := h1.val
  have S := Sep.start w
  by_cases hl : xs.length = 2
  case neg =>
    have R := Lib.hid (okWd_len hl)
    have d1 : ((xs.length : Int) != 2) = true := by simp; omega
    clear hl
    go_enter Try.func38, Try.ntmps38
    go_wp2_with (first | ((with_reducible refine gate_box rfl ?_); refine aBx S ?_; clear S; intro g9 w9 z9 S) | ((with_reducible refine gate_alloc rfl ?_); refine aAl S ?_; clear S; intro g9 w9 z9 S) | ((with_reducible refine gate_load rfl ?_); first | refine aLd S ?_ | refine aPt S ?_ | refine aL1 S ?_) | ((with_reducible refine gate_st rfl ?_); (first | refine aS1 S ?_ | refine aSt S ?_ | refine aSp S ?_); clear S; intro w9 S))
    go_ret
    exact ⟨ret_bool R.out.symm, S.frame⟩
  obtain ⟨a, b, rfl⟩ := len_two hl
  have R0 := Lib.hid (okWd_two a b)
  obtain ⟨ad, ca, rfl, rA, gA⟩ := cellsAt_of_row h1 0 (by simp)
  obtain ⟨ad', cb, e9, rB, gB⟩ := cellsAt_of_row h1 1 (by simp)
  cases e9
  replace rA : tCh.rd w a ca := rA
  replace rB : tCh.rd w b cb := rB
  replace gA : CellsAt w (ad.add 0) ca := by simpa using gA
  replace gB : CellsAt w (ad.add 13) cb := by simpa [tCh] using gB
  have FINa := Lib.hid (fun (W : World) (f : Fr w W) => tCh.fr f rA)
  have FINb := Lib.hid (fun (W : World) (f : Fr w W) => tCh.fr f rB)
  obtain ⟨a1, a2, a3, a4, a5, a6, va, ua, rfl, _, _, ha13, ha14, _⟩ := id rA
  obtain ⟨b1, b2, b3, b4, b5, b6, vb, ub, rfl, _, _, hb13, hb14, _⟩ := id rB
  obtain ⟨Aa, na, rfl⟩ := ha13.val
  obtain ⟨Ba, ma, rfl⟩ := ha14.val
  obtain ⟨Ab, nb, rfl⟩ := hb13.val
  obtain ⟨Bb, mb, rfl⟩ := hb14.val
  have bpa := ha13.le
  have bpb := hb13.le
  have bka := ha14.le
  have bkb := hb14.le
  have oA := tCh_rd_one rA
  have oB := tCh_rd_one rB
  have wk0 : IntKind.i64.wrap 0 = 0 := IntWalk.i64_in _ (by omega)
  have wk1 : IntKind.i64.wrap 1 = 1 := IntWalk.i64_in _ (by omega)
  have wk2 : IntKind.i64.wrap 2 = 2 := IntWalk.i64_in _ (by omega)
  clear rA rB h1 hl
  go_enter Try.func38, Try.ntmps38
  go_wp2_with (first | ((with_reducible refine gate_dst (N := 1) rfl ?_); refine aBx S ?_; clear S; intro gW w9 z9 S) | ((with_reducible refine gate_box rfl ?_); refine aBx S ?_; clear S; intro g9 w9 z9 S) | ((with_reducible refine gate_alloc rfl ?_); refine aAl S ?_; clear S; intro g9 w9 z9 S) | ((with_reducible refine gate_load rfl ?_); first | refine aLd S ?_ | refine aPt S ?_ | refine aL1 S ?_) | ((with_reducible refine gate_st rfl ?_); (first | refine aS1 S ?_ | refine aSt S ?_ | refine aSp S ?_); clear S; intro w9 S))
  go_loopw [3] (fun i wr => ∃ k : Nat, k ≤ 2 ∧ i = .int .i64 k ∧ (0 < k → wAt a 1 b.past.length = true) ∧ (1 < k → wAt b 2 a.past.length = true) ∧ Sep [] w [aBox gW 47 1 _] wr) (fun i _ => 2 - (intOf i).toNat)
  case atStart => exact ⟨0, by decide, rfl, fun h => absurd h (by decide), fun h => absurd h (by decide), S⟩
  case round =>
    clear S
    obtain ⟨k, hk, rfl, a0, a1', S⟩ := hrel
    have A0 := Lib.hid a0
    have A1 := Lib.hid a1'
    clear a0 a1'
    obtain rfl | rfl | rfl : k = 0 ∨ k = 1 ∨ k = 2 := by omega
    · have G1 := Lib.hid gA
      have P1 := Lib.hid (show w.cell? ((ad.add 13).add 11) = some (.slice Ab b.past.length nb) from gB.at_ 11 rfl)
      have hk0 : (0 : Int) ≤ (b.past.length : Int) := Int.natCast_nonneg _
      cases o1 : okCh a with
      | false =>
        have R := Lib.hid (show false = okWd ⟨[a, b]⟩ by rw [R0.out, wAt_ok o1, Bool.false_and])
        have O1 := Lib.hid o1
        clear o1 gA gB
        go_wp2_with (first
          | ((with_reducible refine gate_dst (N := 17) rfl ?_); refine aRw (G1.out.fr S.frame) ?_)
          | ((with_reducible refine gate_dst (N := 4) rfl ?_); refine aAl S ?_; clear S; intro gC w9 z9 S)
          | ((with_reducible refine gate_box rfl ?_); refine aBx S ?_; clear S; intro g9 w9 z9 S) | ((with_reducible refine gate_alloc rfl ?_); refine aAl S ?_; clear S; intro g9 w9 z9 S) | ((with_reducible refine gate_load rfl ?_); first | refine aLd S ?_ | refine aPt S ?_ | refine aL1 S ?_) | ((with_reducible refine gate_st rfl ?_); (first | refine aS1 S ?_ | refine aSt S ?_ | refine aSp S ?_); clear S; intro w9 S))
        have S0 := S
        refine wp_region_noPanic ?_
        refine wp_region_held_drew (S := Sep _ _ _) (by kernel_rfl) S0.drew (fun _ => ?_)
        replace S := S.drew
        clear S0
        refine tk 0 ?_
        (try simp only [Act.put, List.setIfInBounds_toArray, List.set_cons_zero, List.set_cons_succ])
        refine rdy1 1 (fun K hK => ?_)
        go_simp; (skip; go_at_call 33; (with_reducible refine (sChainOk_r _ a _ (FINa.out _ S.frame) O1.out).mono ?_); rintro e w9 ⟨rfl, f9⟩; replace S := S.fr f9; clear f9)
        (first | refine hK.out _ _ (S.sub subA) (fun _ => ?_) | (go_wp2_with fail; refine hK.out _ _ (S.sub subA) (fun _ => ?_)))
        clear hK K
        (try simp only [Act.put, List.setIfInBounds_toArray, List.set_cons_zero, List.set_cons_succ])
        refine tk 2 ?_
        (try simp only [Act.put, List.setIfInBounds_toArray, List.set_cons_zero, List.set_cons_succ])
        refine tk 3 ?_
        (try simp only [Act.put, List.setIfInBounds_toArray, List.set_cons_zero, List.set_cons_succ])
        refine tk 4 ?_
        (try simp only [Act.put, List.setIfInBounds_toArray, List.set_cons_zero, List.set_cons_succ])
        refine tk 5 ?_
        (try simp only [Act.put, List.setIfInBounds_toArray, List.set_cons_zero, List.set_cons_succ])
        refine tk 6 ?_
        (try simp only [Act.put, List.setIfInBounds_toArray, List.set_cons_zero, List.set_cons_succ])
        refine tk 7 ?_
        (try simp only [Act.put, List.setIfInBounds_toArray, List.set_cons_zero, List.set_cons_succ])
        refine tk 8 ?_
        (try simp only [Act.put, List.setIfInBounds_toArray, List.set_cons_zero, List.set_cons_succ])
        refine tk 9 ?_
        (try simp only [Act.put, List.setIfInBounds_toArray, List.set_cons_zero, List.set_cons_succ])
        refine tk 10 ?_
        (try simp only [Act.put, List.setIfInBounds_toArray, List.set_cons_zero, List.set_cons_succ])
        refine tk 11 ?_
        (try simp only [Act.put, List.setIfInBounds_toArray, List.set_cons_zero, List.set_cons_succ])
        refine tk 12 ?_
        (try simp only [Act.put, List.setIfInBounds_toArray, List.set_cons_zero, List.set_cons_succ])
        refine rdy1 13 (fun K hK => ?_)
        go_simp
        (first | refine hK.out _ _ (S.sub subA) (fun _ => ?_) | (go_wp2_with fail; refine hK.out _ _ (S.sub subA) (fun _ => ?_)))
        clear hK K
        (try simp only [Act.put, List.setIfInBounds_toArray, List.set_cons_zero, List.set_cons_succ])
        refine tk 14 ?_
        (try simp only [Act.put, List.setIfInBounds_toArray, List.set_cons_zero, List.set_cons_succ])
        refine tk 15 ?_
        (try simp only [Act.put, List.setIfInBounds_toArray, List.set_cons_zero, List.set_cons_succ])
        refine tk 16 ?_
        (try simp only [Act.put, List.setIfInBounds_toArray, List.set_cons_zero, List.set_cons_succ])
        refine tk 17 ?_
        (try simp only [Act.put, List.setIfInBounds_toArray, List.set_cons_zero, List.set_cons_succ])
        refine tk 18 ?_
        (try simp only [Act.put, List.setIfInBounds_toArray, List.set_cons_zero, List.set_cons_succ])
        refine tk 19 ?_
        (try simp only [Act.put, List.setIfInBounds_toArray, List.set_cons_zero, List.set_cons_succ])
        refine tk 24 ?_
        (try simp only [Act.put, List.setIfInBounds_toArray, List.set_cons_zero, List.set_cons_succ])
        refine tk 25 ?_
        (try simp only [Act.put, List.setIfInBounds_toArray, List.set_cons_zero, List.set_cons_succ])
        refine tk 26 ?_
        (try simp only [Act.put, List.setIfInBounds_toArray, List.set_cons_zero, List.set_cons_succ])
        refine tk 27 ?_
        (try simp only [Act.put, List.setIfInBounds_toArray, List.set_cons_zero, List.set_cons_succ])
        refine tk 28 ?_
        (try simp only [Act.put, List.setIfInBounds_toArray, List.set_cons_zero, List.set_cons_succ])
        refine tk 29 ?_
        (try simp only [Act.put, List.setIfInBounds_toArray, List.set_cons_zero, List.set_cons_succ])
        refine tk 30 ?_ (hy := by first | exact yRc (fun w' h => h.frame.cell P1.out) | (refine Or.inr ⟨by rfl, ?_⟩; rfl))
        (try simp only [Act.put, List.setIfInBounds_toArray, List.set_cons_zero, List.set_cons_succ])
        refine rdys [20, 31] ?_
        refine rdc 20 (fun K hK => ?_) ?_
        · go_simp
          (first | refine hK.out _ _ (S.sub subA) (fun _ => ?_) | (go_wp2_with fail; refine hK.out _ _ (S.sub subA) (fun _ => ?_)))
          clear hK K
          (try simp only [Act.put, List.setIfInBounds_toArray, List.set_cons_zero, List.set_cons_succ])
          refine tk 21 ?_
          (try simp only [Act.put, List.setIfInBounds_toArray, List.set_cons_zero, List.set_cons_succ])
          refine tk 22 ?_
          (try simp only [Act.put, List.setIfInBounds_toArray, List.set_cons_zero, List.set_cons_succ])
          refine tk 23 ?_ (hy := by first | exact yRc (fun w' h => h.frame.cell K1.out) | (refine Or.inr ⟨by rfl, ?_⟩; rfl))
          (try simp only [Act.put, List.setIfInBounds_toArray, List.set_cons_zero, List.set_cons_succ])
          refine rdy1 31 (fun K hK => ?_)
          go_simp
          (first | refine hK.out _ _ (S.sub subA) (fun _ => ?_) | (go_wp2_with fail; refine hK.out _ _ (S.sub subA) (fun _ => ?_)))
          clear hK K
          (try simp only [Act.put, List.setIfInBounds_toArray, List.set_cons_zero, List.set_cons_succ])
          refine tk 32 ?_
          (try simp only [Act.put, List.setIfInBounds_toArray, List.set_cons_zero, List.set_cons_succ])
          refine tk 33 ?_
          (try simp only [Act.put, List.setIfInBounds_toArray, List.set_cons_zero, List.set_cons_succ])
          refine tk 34 ?_
          (try simp only [Act.put, List.setIfInBounds_toArray, List.set_cons_zero, List.set_cons_succ])
          refine wpAnyH_done (by kernel_rfl) ?_ _
          refine NoPanic.normal ?_
          go_wp2
          go_ret
          exact ⟨ret_bool R.out, S.frame⟩
        refine rdc 31 (fun K hK => ?_) AllReadyH.nil
        go_simp
        (first | refine hK.out _ _ (S.sub subA) (fun _ => ?_) | (go_wp2_with fail; refine hK.out _ _ (S.sub subA) (fun _ => ?_)))
        clear hK K
        (try simp only [Act.put, List.setIfInBounds_toArray, List.set_cons_zero, List.set_cons_succ])
        refine rdy1 20 (fun K hK => ?_)
        go_simp
        (first | refine hK.out _ _ (S.sub subA) (fun _ => ?_) | (go_wp2_with fail; refine hK.out _ _ (S.sub subA) (fun _ => ?_)))
        clear hK K
        (try simp only [Act.put, List.setIfInBounds_toArray, List.set_cons_zero, List.set_cons_succ])
        refine tk 21 ?_
        (try simp only [Act.put, List.setIfInBounds_toArray, List.set_cons_zero, List.set_cons_succ])
        refine tk 22 ?_
        (try simp only [Act.put, List.setIfInBounds_toArray, List.set_cons_zero, List.set_cons_succ])
        refine tk 23 ?_ (hy := by first | exact yRc (fun w' h => h.frame.cell K1.out) | (refine Or.inr ⟨by rfl, ?_⟩; rfl))
        (try simp only [Act.put, List.setIfInBounds_toArray, List.set_cons_zero, List.set_cons_succ])
        refine tk 32 ?_
        (try simp only [Act.put, List.setIfInBounds_toArray, List.set_cons_zero, List.set_cons_succ])
        refine tk 33 ?_
        (try simp only [Act.put, List.setIfInBounds_toArray, List.set_cons_zero, List.set_cons_succ])
        refine tk 34 ?_
        (try simp only [Act.put, List.setIfInBounds_toArray, List.set_cons_zero, List.set_cons_succ])
        refine wpAnyH_done (by kernel_rfl) ?_ _
        refine NoPanic.normal ?_
        go_wp2
        go_ret
        exact ⟨ret_bool R.out, S.frame⟩
      | true =>
      have O1 := Lib.hid o1
      clear o1
      by_cases e1 : a.id = 1
      case neg =>
        have R := Lib.hid (show false = okWd ⟨[a, b]⟩ by rw [R0.out, wAt_id e1, Bool.false_and])
        have d1 : (a.id != 1) = true := by simpa using e1
        clear e1 gA gB
        go_wp2_with (first
          | ((with_reducible refine gate_dst (N := 17) rfl ?_); refine aRw (G1.out.fr S.frame) ?_)
          | ((with_reducible refine gate_dst (N := 4) rfl ?_); refine aAl S ?_; clear S; intro gC w9 z9 S)
          | ((with_reducible refine gate_box rfl ?_); refine aBx S ?_; clear S; intro g9 w9 z9 S) | ((with_reducible refine gate_alloc rfl ?_); refine aAl S ?_; clear S; intro g9 w9 z9 S) | ((with_reducible refine gate_load rfl ?_); first | refine aLd S ?_ | refine aPt S ?_ | refine aL1 S ?_) | ((with_reducible refine gate_st rfl ?_); (first | refine aS1 S ?_ | refine aSt S ?_ | refine aSp S ?_); clear S; intro w9 S))
        have S0 := S
        refine wp_region_noPanic ?_
        refine wp_region_held_drew (S := Sep _ _ _) (by kernel_rfl) S0.drew (fun _ => ?_)
        replace S := S.drew
        clear S0
        refine tk 0 ?_
        (try simp only [Act.put, List.setIfInBounds_toArray, List.set_cons_zero, List.set_cons_succ])
        refine rdy1 1 (fun K hK => ?_)
        go_simp; (skip; go_at_call 33; (with_reducible refine (sChainOk_r _ a _ (FINa.out _ S.frame) O1.out).mono ?_); rintro e w9 ⟨rfl, f9⟩; replace S := S.fr f9; clear f9)
        (first | refine hK.out _ _ (S.sub subA) (fun _ => ?_) | (go_wp2_with fail; refine hK.out _ _ (S.sub subA) (fun _ => ?_)))
        clear hK K
        (try simp only [Act.put, List.setIfInBounds_toArray, List.set_cons_zero, List.set_cons_succ])
        refine tk 2 ?_
        (try simp only [Act.put, List.setIfInBounds_toArray, List.set_cons_zero, List.set_cons_succ])
        refine tk 3 ?_
        (try simp only [Act.put, List.setIfInBounds_toArray, List.set_cons_zero, List.set_cons_succ])
        refine tk 4 ?_
        (try simp only [Act.put, List.setIfInBounds_toArray, List.set_cons_zero, List.set_cons_succ])
        refine tk 5 ?_
        (try simp only [Act.put, List.setIfInBounds_toArray, List.set_cons_zero, List.set_cons_succ])
        refine tk 6 ?_
        (try simp only [Act.put, List.setIfInBounds_toArray, List.set_cons_zero, List.set_cons_succ])
        refine tk 7 ?_
        (try simp only [Act.put, List.setIfInBounds_toArray, List.set_cons_zero, List.set_cons_succ])
        refine tk 8 ?_
        (try simp only [Act.put, List.setIfInBounds_toArray, List.set_cons_zero, List.set_cons_succ])
        refine tk 9 ?_
        (try simp only [Act.put, List.setIfInBounds_toArray, List.set_cons_zero, List.set_cons_succ])
        refine tk 10 ?_
        (try simp only [Act.put, List.setIfInBounds_toArray, List.set_cons_zero, List.set_cons_succ])
        refine tk 11 ?_
        (try simp only [Act.put, List.setIfInBounds_toArray, List.set_cons_zero, List.set_cons_succ])
        refine tk 12 ?_
        (try simp only [Act.put, List.setIfInBounds_toArray, List.set_cons_zero, List.set_cons_succ])
        refine rdy1 13 (fun K hK => ?_)
        go_simp
        (first | refine hK.out _ _ (S.sub subA) (fun _ => ?_) | (go_wp2_with fail; refine hK.out _ _ (S.sub subA) (fun _ => ?_)))
        clear hK K
        (try simp only [Act.put, List.setIfInBounds_toArray, List.set_cons_zero, List.set_cons_succ])
        refine tk 14 ?_
        (try simp only [Act.put, List.setIfInBounds_toArray, List.set_cons_zero, List.set_cons_succ])
        refine tk 15 ?_
        (try simp only [Act.put, List.setIfInBounds_toArray, List.set_cons_zero, List.set_cons_succ])
        refine tk 16 ?_
        (try simp only [Act.put, List.setIfInBounds_toArray, List.set_cons_zero, List.set_cons_succ])
        refine tk 17 ?_
        (try simp only [Act.put, List.setIfInBounds_toArray, List.set_cons_zero, List.set_cons_succ])
        refine tk 18 ?_
        (try simp only [Act.put, List.setIfInBounds_toArray, List.set_cons_zero, List.set_cons_succ])
        refine tk 19 ?_
        (try simp only [Act.put, List.setIfInBounds_toArray, List.set_cons_zero, List.set_cons_succ])
        refine tk 24 ?_
        (try simp only [Act.put, List.setIfInBounds_toArray, List.set_cons_zero, List.set_cons_succ])
        refine tk 25 ?_
        (try simp only [Act.put, List.setIfInBounds_toArray, List.set_cons_zero, List.set_cons_succ])
        refine tk 26 ?_
        (try simp only [Act.put, List.setIfInBounds_toArray, List.set_cons_zero, List.set_cons_succ])
        refine tk 27 ?_
        (try simp only [Act.put, List.setIfInBounds_toArray, List.set_cons_zero, List.set_cons_succ])
        refine tk 28 ?_
        (try simp only [Act.put, List.setIfInBounds_toArray, List.set_cons_zero, List.set_cons_succ])
        refine tk 29 ?_
        (try simp only [Act.put, List.setIfInBounds_toArray, List.set_cons_zero, List.set_cons_succ])
        refine tk 30 ?_ (hy := by first | exact yRc (fun w' h => h.frame.cell P1.out) | (refine Or.inr ⟨by rfl, ?_⟩; rfl))
        (try simp only [Act.put, List.setIfInBounds_toArray, List.set_cons_zero, List.set_cons_succ])
        refine rdys [20, 31] ?_
        refine rdc 20 (fun K hK => ?_) ?_
        · go_simp
          (first | refine hK.out _ _ (S.sub subA) (fun _ => ?_) | (go_wp2_with fail; refine hK.out _ _ (S.sub subA) (fun _ => ?_)))
          clear hK K
          (try simp only [Act.put, List.setIfInBounds_toArray, List.set_cons_zero, List.set_cons_succ])
          refine tk 21 ?_
          (try simp only [Act.put, List.setIfInBounds_toArray, List.set_cons_zero, List.set_cons_succ])
          refine tk 22 ?_
          (try simp only [Act.put, List.setIfInBounds_toArray, List.set_cons_zero, List.set_cons_succ])
          refine tk 23 ?_ (hy := by first | exact yRc (fun w' h => h.frame.cell K1.out) | (refine Or.inr ⟨by rfl, ?_⟩; rfl))
          (try simp only [Act.put, List.setIfInBounds_toArray, List.set_cons_zero, List.set_cons_succ])
          refine rdy1 31 (fun K hK => ?_)
          go_simp
          (first | refine hK.out _ _ (S.sub subA) (fun _ => ?_) | (go_wp2_with fail; refine hK.out _ _ (S.sub subA) (fun _ => ?_)))
          clear hK K
          (try simp only [Act.put, List.setIfInBounds_toArray, List.set_cons_zero, List.set_cons_succ])
          refine tk 32 ?_
          (try simp only [Act.put, List.setIfInBounds_toArray, List.set_cons_zero, List.set_cons_succ])
          refine tk 33 ?_
          (try simp only [Act.put, List.setIfInBounds_toArray, List.set_cons_zero, List.set_cons_succ])
          refine tk 34 ?_
          (try simp only [Act.put, List.setIfInBounds_toArray, List.set_cons_zero, List.set_cons_succ])
          refine wpAnyH_done (by kernel_rfl) ?_ _
          refine NoPanic.normal ?_
          go_wp2
          go_ret
          exact ⟨ret_bool R.out, S.frame⟩
        refine rdc 31 (fun K hK => ?_) AllReadyH.nil
        go_simp
        (first | refine hK.out _ _ (S.sub subA) (fun _ => ?_) | (go_wp2_with fail; refine hK.out _ _ (S.sub subA) (fun _ => ?_)))
        clear hK K
        (try simp only [Act.put, List.setIfInBounds_toArray, List.set_cons_zero, List.set_cons_succ])
        refine rdy1 20 (fun K hK => ?_)
        go_simp
        (first | refine hK.out _ _ (S.sub subA) (fun _ => ?_) | (go_wp2_with fail; refine hK.out _ _ (S.sub subA) (fun _ => ?_)))
        clear hK K
        (try simp only [Act.put, List.setIfInBounds_toArray, List.set_cons_zero, List.set_cons_succ])
        refine tk 21 ?_
        (try simp only [Act.put, List.setIfInBounds_toArray, List.set_cons_zero, List.set_cons_succ])
        refine tk 22 ?_
        (try simp only [Act.put, List.setIfInBounds_toArray, List.set_cons_zero, List.set_cons_succ])
        refine tk 23 ?_ (hy := by first | exact yRc (fun w' h => h.frame.cell K1.out) | (refine Or.inr ⟨by rfl, ?_⟩; rfl))
        (try simp only [Act.put, List.setIfInBounds_toArray, List.set_cons_zero, List.set_cons_succ])
        refine tk 32 ?_
        (try simp only [Act.put, List.setIfInBounds_toArray, List.set_cons_zero, List.set_cons_succ])
        refine tk 33 ?_
        (try simp only [Act.put, List.setIfInBounds_toArray, List.set_cons_zero, List.set_cons_succ])
        refine tk 34 ?_
        (try simp only [Act.put, List.setIfInBounds_toArray, List.set_cons_zero, List.set_cons_succ])
        refine wpAnyH_done (by kernel_rfl) ?_ _
        refine NoPanic.normal ?_
        go_wp2
        go_ret
        exact ⟨ret_bool R.out, S.frame⟩
      have d1 : (a.id != 1) = false := by simpa using e1
      have E1 := Lib.hid e1
      clear e1
      rcases hm : a.knows.length with _ | m
      · have R := Lib.hid (wAt_nil (n := b.past.length) O1.out E1.out hm)
        have d2 : decide ((0 : Int) < (a.knows.length : Int)) = false := decide_eq_false (by omega)
        have d2n : decide (0 < a.knows.length) = false := decide_eq_false (by omega)
        have K1 := Lib.hid True.intro
        clear hm gA gB
        go_wp2_with (first
          | ((with_reducible refine gate_dst (N := 17) rfl ?_); refine aRw (G1.out.fr S.frame) ?_)
          | ((with_reducible refine gate_dst (N := 4) rfl ?_); refine aAl S ?_; clear S; intro gC w9 z9 S)
          | ((with_reducible refine gate_box rfl ?_); refine aBx S ?_; clear S; intro g9 w9 z9 S) | ((with_reducible refine gate_alloc rfl ?_); refine aAl S ?_; clear S; intro g9 w9 z9 S) | ((with_reducible refine gate_load rfl ?_); first | refine aLd S ?_ | refine aPt S ?_ | refine aL1 S ?_) | ((with_reducible refine gate_st rfl ?_); (first | refine aS1 S ?_ | refine aSt S ?_ | refine aSp S ?_); clear S; intro w9 S))
        have S0 := S
        refine wp_region_noPanic ?_
        refine wp_region_held_drew (S := Sep _ _ _) (by kernel_rfl) S0.drew (fun _ => ?_)
        replace S := S.drew
        clear S0
        refine tk 0 ?_
        (try simp only [Act.put, List.setIfInBounds_toArray, List.set_cons_zero, List.set_cons_succ])
        refine rdy1 1 (fun K hK => ?_)
        go_simp; (skip; go_at_call 33; (with_reducible refine (sChainOk_r _ a _ (FINa.out _ S.frame) O1.out).mono ?_); rintro e w9 ⟨rfl, f9⟩; replace S := S.fr f9; clear f9)
        (first | refine hK.out _ _ (S.sub subA) (fun _ => ?_) | (go_wp2_with fail; refine hK.out _ _ (S.sub subA) (fun _ => ?_)))
        clear hK K
        (try simp only [Act.put, List.setIfInBounds_toArray, List.set_cons_zero, List.set_cons_succ])
        refine tk 2 ?_
        (try simp only [Act.put, List.setIfInBounds_toArray, List.set_cons_zero, List.set_cons_succ])
        refine tk 3 ?_
        (try simp only [Act.put, List.setIfInBounds_toArray, List.set_cons_zero, List.set_cons_succ])
        refine tk 4 ?_
        (try simp only [Act.put, List.setIfInBounds_toArray, List.set_cons_zero, List.set_cons_succ])
        refine tk 5 ?_
        (try simp only [Act.put, List.setIfInBounds_toArray, List.set_cons_zero, List.set_cons_succ])
        refine tk 6 ?_
        (try simp only [Act.put, List.setIfInBounds_toArray, List.set_cons_zero, List.set_cons_succ])
        refine tk 7 ?_
        (try simp only [Act.put, List.setIfInBounds_toArray, List.set_cons_zero, List.set_cons_succ])
        refine tk 8 ?_
        (try simp only [Act.put, List.setIfInBounds_toArray, List.set_cons_zero, List.set_cons_succ])
        refine tk 9 ?_
        (try simp only [Act.put, List.setIfInBounds_toArray, List.set_cons_zero, List.set_cons_succ])
        refine tk 10 ?_
        (try simp only [Act.put, List.setIfInBounds_toArray, List.set_cons_zero, List.set_cons_succ])
        refine tk 11 ?_
        (try simp only [Act.put, List.setIfInBounds_toArray, List.set_cons_zero, List.set_cons_succ])
        refine tk 12 ?_
        (try simp only [Act.put, List.setIfInBounds_toArray, List.set_cons_zero, List.set_cons_succ])
        refine rdy1 13 (fun K hK => ?_)
        go_simp
        (first | refine hK.out _ _ (S.sub subA) (fun _ => ?_) | (go_wp2_with fail; refine hK.out _ _ (S.sub subA) (fun _ => ?_)))
        clear hK K
        (try simp only [Act.put, List.setIfInBounds_toArray, List.set_cons_zero, List.set_cons_succ])
        refine tk 14 ?_
        (try simp only [Act.put, List.setIfInBounds_toArray, List.set_cons_zero, List.set_cons_succ])
        refine tk 15 ?_
        (try simp only [Act.put, List.setIfInBounds_toArray, List.set_cons_zero, List.set_cons_succ])
        refine tk 16 ?_
        (try simp only [Act.put, List.setIfInBounds_toArray, List.set_cons_zero, List.set_cons_succ])
        refine tk 17 ?_
        (try simp only [Act.put, List.setIfInBounds_toArray, List.set_cons_zero, List.set_cons_succ])
        refine tk 18 ?_
        (try simp only [Act.put, List.setIfInBounds_toArray, List.set_cons_zero, List.set_cons_succ])
        refine tk 19 ?_
        (try simp only [Act.put, List.setIfInBounds_toArray, List.set_cons_zero, List.set_cons_succ])
        refine tk 24 ?_
        (try simp only [Act.put, List.setIfInBounds_toArray, List.set_cons_zero, List.set_cons_succ])
        refine tk 25 ?_
        (try simp only [Act.put, List.setIfInBounds_toArray, List.set_cons_zero, List.set_cons_succ])
        refine tk 26 ?_
        (try simp only [Act.put, List.setIfInBounds_toArray, List.set_cons_zero, List.set_cons_succ])
        refine tk 27 ?_
        (try simp only [Act.put, List.setIfInBounds_toArray, List.set_cons_zero, List.set_cons_succ])
        refine tk 28 ?_
        (try simp only [Act.put, List.setIfInBounds_toArray, List.set_cons_zero, List.set_cons_succ])
        refine tk 29 ?_
        (try simp only [Act.put, List.setIfInBounds_toArray, List.set_cons_zero, List.set_cons_succ])
        refine tk 30 ?_ (hy := by first | exact yRc (fun w' h => h.frame.cell P1.out) | (refine Or.inr ⟨by rfl, ?_⟩; rfl))
        (try simp only [Act.put, List.setIfInBounds_toArray, List.set_cons_zero, List.set_cons_succ])
        refine rdys [20, 31] ?_
        refine rdc 20 (fun K hK => ?_) ?_
        · go_simp
          (first | refine hK.out _ _ (S.sub subA) (fun _ => ?_) | (go_wp2_with fail; refine hK.out _ _ (S.sub subA) (fun _ => ?_)))
          clear hK K
          (try simp only [Act.put, List.setIfInBounds_toArray, List.set_cons_zero, List.set_cons_succ])
          refine tk 21 ?_
          (try simp only [Act.put, List.setIfInBounds_toArray, List.set_cons_zero, List.set_cons_succ])
          refine tk 22 ?_
          (try simp only [Act.put, List.setIfInBounds_toArray, List.set_cons_zero, List.set_cons_succ])
          refine tk 23 ?_ (hy := by first | exact yRc (fun w' h => h.frame.cell K1.out) | (refine Or.inr ⟨by rfl, ?_⟩; rfl))
          (try simp only [Act.put, List.setIfInBounds_toArray, List.set_cons_zero, List.set_cons_succ])
          refine rdy1 31 (fun K hK => ?_)
          go_simp
          (first | refine hK.out _ _ (S.sub subA) (fun _ => ?_) | (go_wp2_with fail; refine hK.out _ _ (S.sub subA) (fun _ => ?_)))
          clear hK K
          (try simp only [Act.put, List.setIfInBounds_toArray, List.set_cons_zero, List.set_cons_succ])
          refine tk 32 ?_
          (try simp only [Act.put, List.setIfInBounds_toArray, List.set_cons_zero, List.set_cons_succ])
          refine tk 33 ?_
          (try simp only [Act.put, List.setIfInBounds_toArray, List.set_cons_zero, List.set_cons_succ])
          refine tk 34 ?_
          (try simp only [Act.put, List.setIfInBounds_toArray, List.set_cons_zero, List.set_cons_succ])
          refine wpAnyH_done (by kernel_rfl) ?_ _
          refine NoPanic.normal ?_
          go_wp2
          go_roundw
          case rel => exact ⟨1, by omega, rfl, fun _ => R.out, fun h => absurd h (by decide), (Sep.only1 (a1 := aBox gW _ _ _) S delA)⟩
          case measure => decide
        refine rdc 31 (fun K hK => ?_) AllReadyH.nil
        go_simp
        (first | refine hK.out _ _ (S.sub subA) (fun _ => ?_) | (go_wp2_with fail; refine hK.out _ _ (S.sub subA) (fun _ => ?_)))
        clear hK K
        (try simp only [Act.put, List.setIfInBounds_toArray, List.set_cons_zero, List.set_cons_succ])
        refine rdy1 20 (fun K hK => ?_)
        go_simp
        (first | refine hK.out _ _ (S.sub subA) (fun _ => ?_) | (go_wp2_with fail; refine hK.out _ _ (S.sub subA) (fun _ => ?_)))
        clear hK K
        (try simp only [Act.put, List.setIfInBounds_toArray, List.set_cons_zero, List.set_cons_succ])
        refine tk 21 ?_
        (try simp only [Act.put, List.setIfInBounds_toArray, List.set_cons_zero, List.set_cons_succ])
        refine tk 22 ?_
        (try simp only [Act.put, List.setIfInBounds_toArray, List.set_cons_zero, List.set_cons_succ])
        refine tk 23 ?_ (hy := by first | exact yRc (fun w' h => h.frame.cell K1.out) | (refine Or.inr ⟨by rfl, ?_⟩; rfl))
        (try simp only [Act.put, List.setIfInBounds_toArray, List.set_cons_zero, List.set_cons_succ])
        refine tk 32 ?_
        (try simp only [Act.put, List.setIfInBounds_toArray, List.set_cons_zero, List.set_cons_succ])
        refine tk 33 ?_
        (try simp only [Act.put, List.setIfInBounds_toArray, List.set_cons_zero, List.set_cons_succ])
        refine tk 34 ?_
        (try simp only [Act.put, List.setIfInBounds_toArray, List.set_cons_zero, List.set_cons_succ])
        refine wpAnyH_done (by kernel_rfl) ?_ _
        refine NoPanic.normal ?_
        go_wp2
        go_roundw
        case rel => exact ⟨1, by omega, rfl, fun _ => R.out, fun h => absurd h (by decide), (Sep.only1 (a1 := aBox gW _ _ _) S delA)⟩
        case measure => decide
      · have hlt : m < a.knows.length := by omega
        obtain ⟨ad2, e2, g2⟩ := row_int_at ha14 m hlt
        cases e2
        obtain ⟨y, hy⟩ : ∃ y, a.knows[m] = y := ⟨_, rfl⟩
        have R1 := Lib.hid (wAt_last (n := b.past.length) O1.out E1.out hm hlt hy)
        rw [hy] at g2
        have K1 := Lib.hid g2
        have d2 : decide ((0 : Int) < (a.knows.length : Int)) = true := decide_eq_true (by omega)
        have d2n : decide (0 < a.knows.length) = true := decide_eq_true (by omega)
        have q0 : (0 : Int) ≤ (m : Int) := Int.natCast_nonneg _
        have q1 : (m : Int) < (a.knows.length : Int) := by omega
        have w1 : IntKind.i64.wrap ((a.knows.length : Int) - 1) = (m : Int) := by rw [show (a.knows.length : Int) - 1 = (m : Int) by omega]; exact IntWalk.i64_in _ (by omega)
        clear g2 hy hm gA gB
        by_cases e3 : y ≤ (b.past.length : Int)
        · have R := Lib.hid (R1.out.trans (decide_eq_true e3))
          have d3 : decide ((b.past.length : Int) < y) = false := decide_eq_false (by omega)
          clear e3
          go_wp2_with (first
            | ((with_reducible refine gate_dst (N := 17) rfl ?_); refine aRw (G1.out.fr S.frame) ?_)
            | ((with_reducible refine gate_dst (N := 4) rfl ?_); refine aAl S ?_; clear S; intro gC w9 z9 S)
            | ((with_reducible refine gate_box rfl ?_); refine aBx S ?_; clear S; intro g9 w9 z9 S) | ((with_reducible refine gate_alloc rfl ?_); refine aAl S ?_; clear S; intro g9 w9 z9 S) | ((with_reducible refine gate_load rfl ?_); first | refine aLd S ?_ | refine aPt S ?_ | refine aL1 S ?_) | ((with_reducible refine gate_st rfl ?_); (first | refine aS1 S ?_ | refine aSt S ?_ | refine aSp S ?_); clear S; intro w9 S))
          have S0 := S
          refine wp_region_noPanic ?_
          refine wp_region_held_drew (S := Sep _ _ _) (by kernel_rfl) S0.drew (fun _ => ?_)
          replace S := S.drew
          clear S0
          refine tk 0 ?_
          (try simp only [Act.put, List.setIfInBounds_toArray, List.set_cons_zero, List.set_cons_succ])
          refine rdy1 1 (fun K hK => ?_)
          go_simp; (skip; go_at_call 33; (with_reducible refine (sChainOk_r _ a _ (FINa.out _ S.frame) O1.out).mono ?_); rintro e w9 ⟨rfl, f9⟩; replace S := S.fr f9; clear f9)
          (first | refine hK.out _ _ (S.sub subA) (fun _ => ?_) | (go_wp2_with fail; refine hK.out _ _ (S.sub subA) (fun _ => ?_)))
          clear hK K
          (try simp only [Act.put, List.setIfInBounds_toArray, List.set_cons_zero, List.set_cons_succ])
          refine tk 2 ?_
          (try simp only [Act.put, List.setIfInBounds_toArray, List.set_cons_zero, List.set_cons_succ])
          refine tk 3 ?_
          (try simp only [Act.put, List.setIfInBounds_toArray, List.set_cons_zero, List.set_cons_succ])
          refine tk 4 ?_
          (try simp only [Act.put, List.setIfInBounds_toArray, List.set_cons_zero, List.set_cons_succ])
          refine tk 5 ?_
          (try simp only [Act.put, List.setIfInBounds_toArray, List.set_cons_zero, List.set_cons_succ])
          refine tk 6 ?_
          (try simp only [Act.put, List.setIfInBounds_toArray, List.set_cons_zero, List.set_cons_succ])
          refine tk 7 ?_
          (try simp only [Act.put, List.setIfInBounds_toArray, List.set_cons_zero, List.set_cons_succ])
          refine tk 8 ?_
          (try simp only [Act.put, List.setIfInBounds_toArray, List.set_cons_zero, List.set_cons_succ])
          refine tk 9 ?_
          (try simp only [Act.put, List.setIfInBounds_toArray, List.set_cons_zero, List.set_cons_succ])
          refine tk 10 ?_
          (try simp only [Act.put, List.setIfInBounds_toArray, List.set_cons_zero, List.set_cons_succ])
          refine tk 11 ?_
          (try simp only [Act.put, List.setIfInBounds_toArray, List.set_cons_zero, List.set_cons_succ])
          refine tk 12 ?_
          (try simp only [Act.put, List.setIfInBounds_toArray, List.set_cons_zero, List.set_cons_succ])
          refine rdy1 13 (fun K hK => ?_)
          go_simp
          (first | refine hK.out _ _ (S.sub subA) (fun _ => ?_) | (go_wp2_with fail; refine hK.out _ _ (S.sub subA) (fun _ => ?_)))
          clear hK K
          (try simp only [Act.put, List.setIfInBounds_toArray, List.set_cons_zero, List.set_cons_succ])
          refine tk 14 ?_
          (try simp only [Act.put, List.setIfInBounds_toArray, List.set_cons_zero, List.set_cons_succ])
          refine tk 15 ?_
          (try simp only [Act.put, List.setIfInBounds_toArray, List.set_cons_zero, List.set_cons_succ])
          refine tk 16 ?_
          (try simp only [Act.put, List.setIfInBounds_toArray, List.set_cons_zero, List.set_cons_succ])
          refine tk 17 ?_
          (try simp only [Act.put, List.setIfInBounds_toArray, List.set_cons_zero, List.set_cons_succ])
          refine tk 18 ?_
          (try simp only [Act.put, List.setIfInBounds_toArray, List.set_cons_zero, List.set_cons_succ])
          refine tk 19 ?_
          (try simp only [Act.put, List.setIfInBounds_toArray, List.set_cons_zero, List.set_cons_succ])
          refine tk 24 ?_
          (try simp only [Act.put, List.setIfInBounds_toArray, List.set_cons_zero, List.set_cons_succ])
          refine tk 25 ?_
          (try simp only [Act.put, List.setIfInBounds_toArray, List.set_cons_zero, List.set_cons_succ])
          refine tk 26 ?_
          (try simp only [Act.put, List.setIfInBounds_toArray, List.set_cons_zero, List.set_cons_succ])
          refine tk 27 ?_
          (try simp only [Act.put, List.setIfInBounds_toArray, List.set_cons_zero, List.set_cons_succ])
          refine tk 28 ?_
          (try simp only [Act.put, List.setIfInBounds_toArray, List.set_cons_zero, List.set_cons_succ])
          refine tk 29 ?_
          (try simp only [Act.put, List.setIfInBounds_toArray, List.set_cons_zero, List.set_cons_succ])
          refine tk 30 ?_ (hy := by first | exact yRc (fun w' h => h.frame.cell P1.out) | (refine Or.inr ⟨by rfl, ?_⟩; rfl))
          (try simp only [Act.put, List.setIfInBounds_toArray, List.set_cons_zero, List.set_cons_succ])
          refine rdys [20, 31] ?_
          refine rdc 20 (fun K hK => ?_) ?_
          · go_simp
            (first | refine hK.out _ _ (S.sub subA) (fun _ => ?_) | (go_wp2_with fail; refine hK.out _ _ (S.sub subA) (fun _ => ?_)))
            clear hK K
            (try simp only [Act.put, List.setIfInBounds_toArray, List.set_cons_zero, List.set_cons_succ])
            refine tk 21 ?_
            (try simp only [Act.put, List.setIfInBounds_toArray, List.set_cons_zero, List.set_cons_succ])
            refine tk 22 ?_
            (try simp only [Act.put, List.setIfInBounds_toArray, List.set_cons_zero, List.set_cons_succ])
            refine tk 23 ?_ (hy := by first | exact yRc (fun w' h => h.frame.cell K1.out) | (refine Or.inr ⟨by rfl, ?_⟩; rfl))
            (try simp only [Act.put, List.setIfInBounds_toArray, List.set_cons_zero, List.set_cons_succ])
            refine rdy1 31 (fun K hK => ?_)
            go_simp
            (first | refine hK.out _ _ (S.sub subA) (fun _ => ?_) | (go_wp2_with fail; refine hK.out _ _ (S.sub subA) (fun _ => ?_)))
            clear hK K
            (try simp only [Act.put, List.setIfInBounds_toArray, List.set_cons_zero, List.set_cons_succ])
            refine tk 32 ?_
            (try simp only [Act.put, List.setIfInBounds_toArray, List.set_cons_zero, List.set_cons_succ])
            refine tk 33 ?_
            (try simp only [Act.put, List.setIfInBounds_toArray, List.set_cons_zero, List.set_cons_succ])
            refine tk 34 ?_
            (try simp only [Act.put, List.setIfInBounds_toArray, List.set_cons_zero, List.set_cons_succ])
            refine wpAnyH_done (by kernel_rfl) ?_ _
            refine NoPanic.normal ?_
            go_wp2
            go_roundw
            case rel => exact ⟨1, by omega, rfl, fun _ => R.out, fun h => absurd h (by decide), (Sep.only1 (a1 := aBox gW _ _ _) S delA)⟩
            case measure => decide
          refine rdc 31 (fun K hK => ?_) AllReadyH.nil
          go_simp
          (first | refine hK.out _ _ (S.sub subA) (fun _ => ?_) | (go_wp2_with fail; refine hK.out _ _ (S.sub subA) (fun _ => ?_)))
          clear hK K
          (try simp only [Act.put, List.setIfInBounds_toArray, List.set_cons_zero, List.set_cons_succ])
          refine rdy1 20 (fun K hK => ?_)
          go_simp
          (first | refine hK.out _ _ (S.sub subA) (fun _ => ?_) | (go_wp2_with fail; refine hK.out _ _ (S.sub subA) (fun _ => ?_)))
          clear hK K
          (try simp only [Act.put, List.setIfInBounds_toArray, List.set_cons_zero, List.set_cons_succ])
          refine tk 21 ?_
          (try simp only [Act.put, List.setIfInBounds_toArray, List.set_cons_zero, List.set_cons_succ])
          refine tk 22 ?_
          (try simp only [Act.put, List.setIfInBounds_toArray, List.set_cons_zero, List.set_cons_succ])
          refine tk 23 ?_ (hy := by first | exact yRc (fun w' h => h.frame.cell K1.out) | (refine Or.inr ⟨by rfl, ?_⟩; rfl))
          (try simp only [Act.put, List.setIfInBounds_toArray, List.set_cons_zero, List.set_cons_succ])
          refine tk 32 ?_
          (try simp only [Act.put, List.setIfInBounds_toArray, List.set_cons_zero, List.set_cons_succ])
          refine tk 33 ?_
          (try simp only [Act.put, List.setIfInBounds_toArray, List.set_cons_zero, List.set_cons_succ])
          refine tk 34 ?_
          (try simp only [Act.put, List.setIfInBounds_toArray, List.set_cons_zero, List.set_cons_succ])
          refine wpAnyH_done (by kernel_rfl) ?_ _
          refine NoPanic.normal ?_
          go_wp2
          go_roundw
          case rel => exact ⟨1, by omega, rfl, fun _ => R.out, fun h => absurd h (by decide), (Sep.only1 (a1 := aBox gW _ _ _) S delA)⟩
          case measure => decide
        · have R := Lib.hid (show false = okWd ⟨[a, b]⟩ by rw [R0.out, R1.out.trans (decide_eq_false e3), Bool.false_and])
          have d3 : decide ((b.past.length : Int) < y) = true := decide_eq_true (by omega)
          clear e3
          go_wp2_with (first
            | ((with_reducible refine gate_dst (N := 17) rfl ?_); refine aRw (G1.out.fr S.frame) ?_)
            | ((with_reducible refine gate_dst (N := 4) rfl ?_); refine aAl S ?_; clear S; intro gC w9 z9 S)
            | ((with_reducible refine gate_box rfl ?_); refine aBx S ?_; clear S; intro g9 w9 z9 S) | ((with_reducible refine gate_alloc rfl ?_); refine aAl S ?_; clear S; intro g9 w9 z9 S) | ((with_reducible refine gate_load rfl ?_); first | refine aLd S ?_ | refine aPt S ?_ | refine aL1 S ?_) | ((with_reducible refine gate_st rfl ?_); (first | refine aS1 S ?_ | refine aSt S ?_ | refine aSp S ?_); clear S; intro w9 S))
          have S0 := S
          refine wp_region_noPanic ?_
          refine wp_region_held_drew (S := Sep _ _ _) (by kernel_rfl) S0.drew (fun _ => ?_)
          replace S := S.drew
          clear S0
          refine tk 0 ?_
          (try simp only [Act.put, List.setIfInBounds_toArray, List.set_cons_zero, List.set_cons_succ])
          refine rdy1 1 (fun K hK => ?_)
          go_simp; (skip; go_at_call 33; (with_reducible refine (sChainOk_r _ a _ (FINa.out _ S.frame) O1.out).mono ?_); rintro e w9 ⟨rfl, f9⟩; replace S := S.fr f9; clear f9)
          (first | refine hK.out _ _ (S.sub subA) (fun _ => ?_) | (go_wp2_with fail; refine hK.out _ _ (S.sub subA) (fun _ => ?_)))
          clear hK K
          (try simp only [Act.put, List.setIfInBounds_toArray, List.set_cons_zero, List.set_cons_succ])
          refine tk 2 ?_
          (try simp only [Act.put, List.setIfInBounds_toArray, List.set_cons_zero, List.set_cons_succ])
          refine tk 3 ?_
          (try simp only [Act.put, List.setIfInBounds_toArray, List.set_cons_zero, List.set_cons_succ])
          refine tk 4 ?_
          (try simp only [Act.put, List.setIfInBounds_toArray, List.set_cons_zero, List.set_cons_succ])
          refine tk 5 ?_
          (try simp only [Act.put, List.setIfInBounds_toArray, List.set_cons_zero, List.set_cons_succ])
          refine tk 6 ?_
          (try simp only [Act.put, List.setIfInBounds_toArray, List.set_cons_zero, List.set_cons_succ])
          refine tk 7 ?_
          (try simp only [Act.put, List.setIfInBounds_toArray, List.set_cons_zero, List.set_cons_succ])
          refine tk 8 ?_
          (try simp only [Act.put, List.setIfInBounds_toArray, List.set_cons_zero, List.set_cons_succ])
          refine tk 9 ?_
          (try simp only [Act.put, List.setIfInBounds_toArray, List.set_cons_zero, List.set_cons_succ])
          refine tk 10 ?_
          (try simp only [Act.put, List.setIfInBounds_toArray, List.set_cons_zero, List.set_cons_succ])
          refine tk 11 ?_
          (try simp only [Act.put, List.setIfInBounds_toArray, List.set_cons_zero, List.set_cons_succ])
          refine tk 12 ?_
          (try simp only [Act.put, List.setIfInBounds_toArray, List.set_cons_zero, List.set_cons_succ])
          refine rdy1 13 (fun K hK => ?_)
          go_simp
          (first | refine hK.out _ _ (S.sub subA) (fun _ => ?_) | (go_wp2_with fail; refine hK.out _ _ (S.sub subA) (fun _ => ?_)))
          clear hK K
          (try simp only [Act.put, List.setIfInBounds_toArray, List.set_cons_zero, List.set_cons_succ])
          refine tk 14 ?_
          (try simp only [Act.put, List.setIfInBounds_toArray, List.set_cons_zero, List.set_cons_succ])
          refine tk 15 ?_
          (try simp only [Act.put, List.setIfInBounds_toArray, List.set_cons_zero, List.set_cons_succ])
          refine tk 16 ?_
          (try simp only [Act.put, List.setIfInBounds_toArray, List.set_cons_zero, List.set_cons_succ])
          refine tk 17 ?_
          (try simp only [Act.put, List.setIfInBounds_toArray, List.set_cons_zero, List.set_cons_succ])
          refine tk 18 ?_
          (try simp only [Act.put, List.setIfInBounds_toArray, List.set_cons_zero, List.set_cons_succ])
          refine tk 19 ?_
          (try simp only [Act.put, List.setIfInBounds_toArray, List.set_cons_zero, List.set_cons_succ])
          refine tk 24 ?_
          (try simp only [Act.put, List.setIfInBounds_toArray, List.set_cons_zero, List.set_cons_succ])
          refine tk 25 ?_
          (try simp only [Act.put, List.setIfInBounds_toArray, List.set_cons_zero, List.set_cons_succ])
          refine tk 26 ?_
          (try simp only [Act.put, List.setIfInBounds_toArray, List.set_cons_zero, List.set_cons_succ])
          refine tk 27 ?_
          (try simp only [Act.put, List.setIfInBounds_toArray, List.set_cons_zero, List.set_cons_succ])
          refine tk 28 ?_
          (try simp only [Act.put, List.setIfInBounds_toArray, List.set_cons_zero, List.set_cons_succ])
          refine tk 29 ?_
          (try simp only [Act.put, List.setIfInBounds_toArray, List.set_cons_zero, List.set_cons_succ])
          refine tk 30 ?_ (hy := by first | exact yRc (fun w' h => h.frame.cell P1.out) | (refine Or.inr ⟨by rfl, ?_⟩; rfl))
          (try simp only [Act.put, List.setIfInBounds_toArray, List.set_cons_zero, List.set_cons_succ])
          refine rdys [20, 31] ?_
          refine rdc 20 (fun K hK => ?_) ?_
          · go_simp
            (first | refine hK.out _ _ (S.sub subA) (fun _ => ?_) | (go_wp2_with fail; refine hK.out _ _ (S.sub subA) (fun _ => ?_)))
            clear hK K
            (try simp only [Act.put, List.setIfInBounds_toArray, List.set_cons_zero, List.set_cons_succ])
            refine tk 21 ?_
            (try simp only [Act.put, List.setIfInBounds_toArray, List.set_cons_zero, List.set_cons_succ])
            refine tk 22 ?_
            (try simp only [Act.put, List.setIfInBounds_toArray, List.set_cons_zero, List.set_cons_succ])
            refine tk 23 ?_ (hy := by first | exact yRc (fun w' h => h.frame.cell K1.out) | (refine Or.inr ⟨by rfl, ?_⟩; rfl))
            (try simp only [Act.put, List.setIfInBounds_toArray, List.set_cons_zero, List.set_cons_succ])
            refine rdy1 31 (fun K hK => ?_)
            go_simp
            (first | refine hK.out _ _ (S.sub subA) (fun _ => ?_) | (go_wp2_with fail; refine hK.out _ _ (S.sub subA) (fun _ => ?_)))
            clear hK K
            (try simp only [Act.put, List.setIfInBounds_toArray, List.set_cons_zero, List.set_cons_succ])
            refine tk 32 ?_
            (try simp only [Act.put, List.setIfInBounds_toArray, List.set_cons_zero, List.set_cons_succ])
            refine tk 33 ?_
            (try simp only [Act.put, List.setIfInBounds_toArray, List.set_cons_zero, List.set_cons_succ])
            refine tk 34 ?_
            (try simp only [Act.put, List.setIfInBounds_toArray, List.set_cons_zero, List.set_cons_succ])
            refine wpAnyH_done (by kernel_rfl) ?_ _
            refine NoPanic.normal ?_
            go_wp2
            go_ret
            exact ⟨ret_bool R.out, S.frame⟩
          refine rdc 31 (fun K hK => ?_) AllReadyH.nil
          go_simp
          (first | refine hK.out _ _ (S.sub subA) (fun _ => ?_) | (go_wp2_with fail; refine hK.out _ _ (S.sub subA) (fun _ => ?_)))
          clear hK K
          (try simp only [Act.put, List.setIfInBounds_toArray, List.set_cons_zero, List.set_cons_succ])
          refine rdy1 20 (fun K hK => ?_)
          go_simp
          (first | refine hK.out _ _ (S.sub subA) (fun _ => ?_) | (go_wp2_with fail; refine hK.out _ _ (S.sub subA) (fun _ => ?_)))
          clear hK K
          (try simp only [Act.put, List.setIfInBounds_toArray, List.set_cons_zero, List.set_cons_succ])
          refine tk 21 ?_
          (try simp only [Act.put, List.setIfInBounds_toArray, List.set_cons_zero, List.set_cons_succ])
          refine tk 22 ?_
          (try simp only [Act.put, List.setIfInBounds_toArray, List.set_cons_zero, List.set_cons_succ])
          refine tk 23 ?_ (hy := by first | exact yRc (fun w' h => h.frame.cell K1.out) | (refine Or.inr ⟨by rfl, ?_⟩; rfl))
          (try simp only [Act.put, List.setIfInBounds_toArray, List.set_cons_zero, List.set_cons_succ])
          refine tk 32 ?_
          (try simp only [Act.put, List.setIfInBounds_toArray, List.set_cons_zero, List.set_cons_succ])
          refine tk 33 ?_
          (try simp only [Act.put, List.setIfInBounds_toArray, List.set_cons_zero, List.set_cons_succ])
          refine tk 34 ?_
          (try simp only [Act.put, List.setIfInBounds_toArray, List.set_cons_zero, List.set_cons_succ])
          refine wpAnyH_done (by kernel_rfl) ?_ _
          refine NoPanic.normal ?_
          go_wp2
          go_ret
          exact ⟨ret_bool R.out, S.frame⟩
    · have G1 := Lib.hid gB
      have P1 := Lib.hid (show w.cell? ((ad.add 0).add 11) = some (.slice Aa a.past.length na) from gA.at_ 11 rfl)
      have hk0 : (0 : Int) ≤ (a.past.length : Int) := Int.natCast_nonneg _
      cases o1 : okCh b with
      | false =>
        have R := Lib.hid (show false = okWd ⟨[a, b]⟩ by rw [R0.out, wAt_ok o1, Bool.and_false])
        have O1 := Lib.hid o1
        clear o1 gA gB
        go_wp2_with (first
          | ((with_reducible refine gate_dst (N := 17) rfl ?_); refine aRw (G1.out.fr S.frame) ?_)
          | ((with_reducible refine gate_dst (N := 4) rfl ?_); refine aAl S ?_; clear S; intro gC w9 z9 S)
          | ((with_reducible refine gate_box rfl ?_); refine aBx S ?_; clear S; intro g9 w9 z9 S) | ((with_reducible refine gate_alloc rfl ?_); refine aAl S ?_; clear S; intro g9 w9 z9 S) | ((with_reducible refine gate_load rfl ?_); first | refine aLd S ?_ | refine aPt S ?_ | refine aL1 S ?_) | ((with_reducible refine gate_st rfl ?_); (first | refine aS1 S ?_ | refine aSt S ?_ | refine aSp S ?_); clear S; intro w9 S))
        have S0 := S
        refine wp_region_noPanic ?_
        refine wp_region_held_drew (S := Sep _ _ _) (by kernel_rfl) S0.drew (fun _ => ?_)
        replace S := S.drew
        clear S0
        refine tk 0 ?_
        (try simp only [Act.put, List.setIfInBounds_toArray, List.set_cons_zero, List.set_cons_succ])
        refine rdy1 1 (fun K hK => ?_)
        go_simp; (skip; go_at_call 33; (with_reducible refine (sChainOk_r _ b _ (FINb.out _ S.frame) O1.out).mono ?_); rintro e w9 ⟨rfl, f9⟩; replace S := S.fr f9; clear f9)
        (first | refine hK.out _ _ (S.sub subA) (fun _ => ?_) | (go_wp2_with fail; refine hK.out _ _ (S.sub subA) (fun _ => ?_)))
        clear hK K
        (try simp only [Act.put, List.setIfInBounds_toArray, List.set_cons_zero, List.set_cons_succ])
        refine tk 2 ?_
        (try simp only [Act.put, List.setIfInBounds_toArray, List.set_cons_zero, List.set_cons_succ])
        refine tk 3 ?_
        (try simp only [Act.put, List.setIfInBounds_toArray, List.set_cons_zero, List.set_cons_succ])
        refine tk 4 ?_
        (try simp only [Act.put, List.setIfInBounds_toArray, List.set_cons_zero, List.set_cons_succ])
        refine tk 5 ?_
        (try simp only [Act.put, List.setIfInBounds_toArray, List.set_cons_zero, List.set_cons_succ])
        refine tk 6 ?_
        (try simp only [Act.put, List.setIfInBounds_toArray, List.set_cons_zero, List.set_cons_succ])
        refine tk 7 ?_
        (try simp only [Act.put, List.setIfInBounds_toArray, List.set_cons_zero, List.set_cons_succ])
        refine tk 8 ?_
        (try simp only [Act.put, List.setIfInBounds_toArray, List.set_cons_zero, List.set_cons_succ])
        refine tk 9 ?_
        (try simp only [Act.put, List.setIfInBounds_toArray, List.set_cons_zero, List.set_cons_succ])
        refine tk 10 ?_
        (try simp only [Act.put, List.setIfInBounds_toArray, List.set_cons_zero, List.set_cons_succ])
        refine tk 11 ?_
        (try simp only [Act.put, List.setIfInBounds_toArray, List.set_cons_zero, List.set_cons_succ])
        refine tk 12 ?_
        (try simp only [Act.put, List.setIfInBounds_toArray, List.set_cons_zero, List.set_cons_succ])
        refine rdy1 13 (fun K hK => ?_)
        go_simp
        (first | refine hK.out _ _ (S.sub subA) (fun _ => ?_) | (go_wp2_with fail; refine hK.out _ _ (S.sub subA) (fun _ => ?_)))
        clear hK K
        (try simp only [Act.put, List.setIfInBounds_toArray, List.set_cons_zero, List.set_cons_succ])
        refine tk 14 ?_
        (try simp only [Act.put, List.setIfInBounds_toArray, List.set_cons_zero, List.set_cons_succ])
        refine tk 15 ?_
        (try simp only [Act.put, List.setIfInBounds_toArray, List.set_cons_zero, List.set_cons_succ])
        refine tk 16 ?_
        (try simp only [Act.put, List.setIfInBounds_toArray, List.set_cons_zero, List.set_cons_succ])
        refine tk 17 ?_
        (try simp only [Act.put, List.setIfInBounds_toArray, List.set_cons_zero, List.set_cons_succ])
        refine tk 18 ?_
        (try simp only [Act.put, List.setIfInBounds_toArray, List.set_cons_zero, List.set_cons_succ])
        refine tk 19 ?_
        (try simp only [Act.put, List.setIfInBounds_toArray, List.set_cons_zero, List.set_cons_succ])
        refine tk 24 ?_
        (try simp only [Act.put, List.setIfInBounds_toArray, List.set_cons_zero, List.set_cons_succ])
        refine tk 25 ?_
        (try simp only [Act.put, List.setIfInBounds_toArray, List.set_cons_zero, List.set_cons_succ])
        refine tk 26 ?_
        (try simp only [Act.put, List.setIfInBounds_toArray, List.set_cons_zero, List.set_cons_succ])
        refine tk 27 ?_
        (try simp only [Act.put, List.setIfInBounds_toArray, List.set_cons_zero, List.set_cons_succ])
        refine tk 28 ?_
        (try simp only [Act.put, List.setIfInBounds_toArray, List.set_cons_zero, List.set_cons_succ])
        refine tk 29 ?_
        (try simp only [Act.put, List.setIfInBounds_toArray, List.set_cons_zero, List.set_cons_succ])
        refine tk 30 ?_ (hy := by first | exact yRc (fun w' h => h.frame.cell P1.out) | (refine Or.inr ⟨by rfl, ?_⟩; rfl))
        (try simp only [Act.put, List.setIfInBounds_toArray, List.set_cons_zero, List.set_cons_succ])
        refine rdys [20, 31] ?_
        refine rdc 20 (fun K hK => ?_) ?_
        · go_simp
          (first | refine hK.out _ _ (S.sub subA) (fun _ => ?_) | (go_wp2_with fail; refine hK.out _ _ (S.sub subA) (fun _ => ?_)))
          clear hK K
          (try simp only [Act.put, List.setIfInBounds_toArray, List.set_cons_zero, List.set_cons_succ])
          refine tk 21 ?_
          (try simp only [Act.put, List.setIfInBounds_toArray, List.set_cons_zero, List.set_cons_succ])
          refine tk 22 ?_
          (try simp only [Act.put, List.setIfInBounds_toArray, List.set_cons_zero, List.set_cons_succ])
          refine tk 23 ?_ (hy := by first | exact yRc (fun w' h => h.frame.cell K1.out) | (refine Or.inr ⟨by rfl, ?_⟩; rfl))
          (try simp only [Act.put, List.setIfInBounds_toArray, List.set_cons_zero, List.set_cons_succ])
          refine rdy1 31 (fun K hK => ?_)
          go_simp
          (first | refine hK.out _ _ (S.sub subA) (fun _ => ?_) | (go_wp2_with fail; refine hK.out _ _ (S.sub subA) (fun _ => ?_)))
          clear hK K
          (try simp only [Act.put, List.setIfInBounds_toArray, List.set_cons_zero, List.set_cons_succ])
          refine tk 32 ?_
          (try simp only [Act.put, List.setIfInBounds_toArray, List.set_cons_zero, List.set_cons_succ])
          refine tk 33 ?_
          (try simp only [Act.put, List.setIfInBounds_toArray, List.set_cons_zero, List.set_cons_succ])
          refine tk 34 ?_
          (try simp only [Act.put, List.setIfInBounds_toArray, List.set_cons_zero, List.set_cons_succ])
          refine wpAnyH_done (by kernel_rfl) ?_ _
          refine NoPanic.normal ?_
          go_wp2
          go_ret
          exact ⟨ret_bool R.out, S.frame⟩
        refine rdc 31 (fun K hK => ?_) AllReadyH.nil
        go_simp
        (first | refine hK.out _ _ (S.sub subA) (fun _ => ?_) | (go_wp2_with fail; refine hK.out _ _ (S.sub subA) (fun _ => ?_)))
        clear hK K
        (try simp only [Act.put, List.setIfInBounds_toArray, List.set_cons_zero, List.set_cons_succ])
        refine rdy1 20 (fun K hK => ?_)
        go_simp
        (first | refine hK.out _ _ (S.sub subA) (fun _ => ?_) | (go_wp2_with fail; refine hK.out _ _ (S.sub subA) (fun _ => ?_)))
        clear hK K
        (try simp only [Act.put, List.setIfInBounds_toArray, List.set_cons_zero, List.set_cons_succ])
        refine tk 21 ?_
        (try simp only [Act.put, List.setIfInBounds_toArray, List.set_cons_zero, List.set_cons_succ])
        refine tk 22 ?_
        (try simp only [Act.put, List.setIfInBounds_toArray, List.set_cons_zero, List.set_cons_succ])
        refine tk 23 ?_ (hy := by first | exact yRc (fun w' h => h.frame.cell K1.out) | (refine Or.inr ⟨by rfl, ?_⟩; rfl))
        (try simp only [Act.put, List.setIfInBounds_toArray, List.set_cons_zero, List.set_cons_succ])
        refine tk 32 ?_
        (try simp only [Act.put, List.setIfInBounds_toArray, List.set_cons_zero, List.set_cons_succ])
        refine tk 33 ?_
        (try simp only [Act.put, List.setIfInBounds_toArray, List.set_cons_zero, List.set_cons_succ])
        refine tk 34 ?_
        (try simp only [Act.put, List.setIfInBounds_toArray, List.set_cons_zero, List.set_cons_succ])
        refine wpAnyH_done (by kernel_rfl) ?_ _
        refine NoPanic.normal ?_
        go_wp2
        go_ret
        exact ⟨ret_bool R.out, S.frame⟩
      | true =>
      have O1 := Lib.hid o1
      clear o1
      by_cases e1 : b.id = 2
      case neg =>
        have R := Lib.hid (show false = okWd ⟨[a, b]⟩ by rw [R0.out, wAt_id e1, Bool.and_false])
        have d1 : (b.id != 2) = true := by simpa using e1
        clear e1 gA gB
        go_wp2_with (first
          | ((with_reducible refine gate_dst (N := 17) rfl ?_); refine aRw (G1.out.fr S.frame) ?_)
          | ((with_reducible refine gate_dst (N := 4) rfl ?_); refine aAl S ?_; clear S; intro gC w9 z9 S)
          | ((with_reducible refine gate_box rfl ?_); refine aBx S ?_; clear S; intro g9 w9 z9 S) | ((with_reducible refine gate_alloc rfl ?_); refine aAl S ?_; clear S; intro g9 w9 z9 S) | ((with_reducible refine gate_load rfl ?_); first | refine aLd S ?_ | refine aPt S ?_ | refine aL1 S ?_) | ((with_reducible refine gate_st rfl ?_); (first | refine aS1 S ?_ | refine aSt S ?_ | refine aSp S ?_); clear S; intro w9 S))
        have S0 := S
        refine wp_region_noPanic ?_
        refine wp_region_held_drew (S := Sep _ _ _) (by kernel_rfl) S0.drew (fun _ => ?_)
        replace S := S.drew
        clear S0
        refine tk 0 ?_
        (try simp only [Act.put, List.setIfInBounds_toArray, List.set_cons_zero, List.set_cons_succ])
        refine rdy1 1 (fun K hK => ?_)
        go_simp; (skip; go_at_call 33; (with_reducible refine (sChainOk_r _ b _ (FINb.out _ S.frame) O1.out).mono ?_); rintro e w9 ⟨rfl, f9⟩; replace S := S.fr f9; clear f9)
        (first | refine hK.out _ _ (S.sub subA) (fun _ => ?_) | (go_wp2_with fail; refine hK.out _ _ (S.sub subA) (fun _ => ?_)))
        clear hK K
        (try simp only [Act.put, List.setIfInBounds_toArray, List.set_cons_zero, List.set_cons_succ])
        refine tk 2 ?_
        (try simp only [Act.put, List.setIfInBounds_toArray, List.set_cons_zero, List.set_cons_succ])
        refine tk 3 ?_
        (try simp only [Act.put, List.setIfInBounds_toArray, List.set_cons_zero, List.set_cons_succ])
        refine tk 4 ?_
        (try simp only [Act.put, List.setIfInBounds_toArray, List.set_cons_zero, List.set_cons_succ])
        refine tk 5 ?_
        (try simp only [Act.put, List.setIfInBounds_toArray, List.set_cons_zero, List.set_cons_succ])
        refine tk 6 ?_
        (try simp only [Act.put, List.setIfInBounds_toArray, List.set_cons_zero, List.set_cons_succ])
        refine tk 7 ?_
        (try simp only [Act.put, List.setIfInBounds_toArray, List.set_cons_zero, List.set_cons_succ])
        refine tk 8 ?_
        (try simp only [Act.put, List.setIfInBounds_toArray, List.set_cons_zero, List.set_cons_succ])
        refine tk 9 ?_
        (try simp only [Act.put, List.setIfInBounds_toArray, List.set_cons_zero, List.set_cons_succ])
        refine tk 10 ?_
        (try simp only [Act.put, List.setIfInBounds_toArray, List.set_cons_zero, List.set_cons_succ])
        refine tk 11 ?_
        (try simp only [Act.put, List.setIfInBounds_toArray, List.set_cons_zero, List.set_cons_succ])
        refine tk 12 ?_
        (try simp only [Act.put, List.setIfInBounds_toArray, List.set_cons_zero, List.set_cons_succ])
        refine rdy1 13 (fun K hK => ?_)
        go_simp
        (first | refine hK.out _ _ (S.sub subA) (fun _ => ?_) | (go_wp2_with fail; refine hK.out _ _ (S.sub subA) (fun _ => ?_)))
        clear hK K
        (try simp only [Act.put, List.setIfInBounds_toArray, List.set_cons_zero, List.set_cons_succ])
        refine tk 14 ?_
        (try simp only [Act.put, List.setIfInBounds_toArray, List.set_cons_zero, List.set_cons_succ])
        refine tk 15 ?_
        (try simp only [Act.put, List.setIfInBounds_toArray, List.set_cons_zero, List.set_cons_succ])
        refine tk 16 ?_
        (try simp only [Act.put, List.setIfInBounds_toArray, List.set_cons_zero, List.set_cons_succ])
        refine tk 17 ?_
        (try simp only [Act.put, List.setIfInBounds_toArray, List.set_cons_zero, List.set_cons_succ])
        refine tk 18 ?_
        (try simp only [Act.put, List.setIfInBounds_toArray, List.set_cons_zero, List.set_cons_succ])
        refine tk 19 ?_
        (try simp only [Act.put, List.setIfInBounds_toArray, List.set_cons_zero, List.set_cons_succ])
        refine tk 24 ?_
        (try simp only [Act.put, List.setIfInBounds_toArray, List.set_cons_zero, List.set_cons_succ])
        refine tk 25 ?_
        (try simp only [Act.put, List.setIfInBounds_toArray, List.set_cons_zero, List.set_cons_succ])
        refine tk 26 ?_
        (try simp only [Act.put, List.setIfInBounds_toArray, List.set_cons_zero, List.set_cons_succ])
        refine tk 27 ?_
        (try simp only [Act.put, List.setIfInBounds_toArray, List.set_cons_zero, List.set_cons_succ])
        refine tk 28 ?_
        (try simp only [Act.put, List.setIfInBounds_toArray, List.set_cons_zero, List.set_cons_succ])
        refine tk 29 ?_
        (try simp only [Act.put, List.setIfInBounds_toArray, List.set_cons_zero, List.set_cons_succ])
        refine tk 30 ?_ (hy := by first | exact yRc (fun w' h => h.frame.cell P1.out) | (refine Or.inr ⟨by rfl, ?_⟩; rfl))
        (try simp only [Act.put, List.setIfInBounds_toArray, List.set_cons_zero, List.set_cons_succ])
        refine rdys [20, 31] ?_
        refine rdc 20 (fun K hK => ?_) ?_
        · go_simp
          (first | refine hK.out _ _ (S.sub subA) (fun _ => ?_) | (go_wp2_with fail; refine hK.out _ _ (S.sub subA) (fun _ => ?_)))
          clear hK K
          (try simp only [Act.put, List.setIfInBounds_toArray, List.set_cons_zero, List.set_cons_succ])
          refine tk 21 ?_
          (try simp only [Act.put, List.setIfInBounds_toArray, List.set_cons_zero, List.set_cons_succ])
          refine tk 22 ?_
          (try simp only [Act.put, List.setIfInBounds_toArray, List.set_cons_zero, List.set_cons_succ])
          refine tk 23 ?_ (hy := by first | exact yRc (fun w' h => h.frame.cell K1.out) | (refine Or.inr ⟨by rfl, ?_⟩; rfl))
          (try simp only [Act.put, List.setIfInBounds_toArray, List.set_cons_zero, List.set_cons_succ])
          refine rdy1 31 (fun K hK => ?_)
          go_simp
          (first | refine hK.out _ _ (S.sub subA) (fun _ => ?_) | (go_wp2_with fail; refine hK.out _ _ (S.sub subA) (fun _ => ?_)))
          clear hK K
          (try simp only [Act.put, List.setIfInBounds_toArray, List.set_cons_zero, List.set_cons_succ])
          refine tk 32 ?_
          (try simp only [Act.put, List.setIfInBounds_toArray, List.set_cons_zero, List.set_cons_succ])
          refine tk 33 ?_
          (try simp only [Act.put, List.setIfInBounds_toArray, List.set_cons_zero, List.set_cons_succ])
          refine tk 34 ?_
          (try simp only [Act.put, List.setIfInBounds_toArray, List.set_cons_zero, List.set_cons_succ])
          refine wpAnyH_done (by kernel_rfl) ?_ _
          refine NoPanic.normal ?_
          go_wp2
          go_ret
          exact ⟨ret_bool R.out, S.frame⟩
        refine rdc 31 (fun K hK => ?_) AllReadyH.nil
        go_simp
        (first | refine hK.out _ _ (S.sub subA) (fun _ => ?_) | (go_wp2_with fail; refine hK.out _ _ (S.sub subA) (fun _ => ?_)))
        clear hK K
        (try simp only [Act.put, List.setIfInBounds_toArray, List.set_cons_zero, List.set_cons_succ])
        refine rdy1 20 (fun K hK => ?_)
        go_simp
        (first | refine hK.out _ _ (S.sub subA) (fun _ => ?_) | (go_wp2_with fail; refine hK.out _ _ (S.sub subA) (fun _ => ?_)))
        clear hK K
        (try simp only [Act.put, List.setIfInBounds_toArray, List.set_cons_zero, List.set_cons_succ])
        refine tk 21 ?_
        (try simp only [Act.put, List.setIfInBounds_toArray, List.set_cons_zero, List.set_cons_succ])
        refine tk 22 ?_
        (try simp only [Act.put, List.setIfInBounds_toArray, List.set_cons_zero, List.set_cons_succ])
        refine tk 23 ?_ (hy := by first | exact yRc (fun w' h => h.frame.cell K1.out) | (refine Or.inr ⟨by rfl, ?_⟩; rfl))
        (try simp only [Act.put, List.setIfInBounds_toArray, List.set_cons_zero, List.set_cons_succ])
        refine tk 32 ?_
        (try simp only [Act.put, List.setIfInBounds_toArray, List.set_cons_zero, List.set_cons_succ])
        refine tk 33 ?_
        (try simp only [Act.put, List.setIfInBounds_toArray, List.set_cons_zero, List.set_cons_succ])
        refine tk 34 ?_
        (try simp only [Act.put, List.setIfInBounds_toArray, List.set_cons_zero, List.set_cons_succ])
        refine wpAnyH_done (by kernel_rfl) ?_ _
        refine NoPanic.normal ?_
        go_wp2
        go_ret
        exact ⟨ret_bool R.out, S.frame⟩
      have d1 : (b.id != 2) = false := by simpa using e1
      have E1 := Lib.hid e1
      clear e1
      rcases hm : b.knows.length with _ | m
      · have R := Lib.hid (wAt_nil (n := a.past.length) O1.out E1.out hm)
        have d2 : decide ((0 : Int) < (b.knows.length : Int)) = false := decide_eq_false (by omega)
        have d2n : decide (0 < b.knows.length) = false := decide_eq_false (by omega)
        have K1 := Lib.hid True.intro
        clear hm gA gB
        go_wp2_with (first
          | ((with_reducible refine gate_dst (N := 17) rfl ?_); refine aRw (G1.out.fr S.frame) ?_)
          | ((with_reducible refine gate_dst (N := 4) rfl ?_); refine aAl S ?_; clear S; intro gC w9 z9 S)
          | ((with_reducible refine gate_box rfl ?_); refine aBx S ?_; clear S; intro g9 w9 z9 S) | ((with_reducible refine gate_alloc rfl ?_); refine aAl S ?_; clear S; intro g9 w9 z9 S) | ((with_reducible refine gate_load rfl ?_); first | refine aLd S ?_ | refine aPt S ?_ | refine aL1 S ?_) | ((with_reducible refine gate_st rfl ?_); (first | refine aS1 S ?_ | refine aSt S ?_ | refine aSp S ?_); clear S; intro w9 S))
        have S0 := S
        refine wp_region_noPanic ?_
        refine wp_region_held_drew (S := Sep _ _ _) (by kernel_rfl) S0.drew (fun _ => ?_)
        replace S := S.drew
        clear S0
        refine tk 0 ?_
        (try simp only [Act.put, List.setIfInBounds_toArray, List.set_cons_zero, List.set_cons_succ])
        refine rdy1 1 (fun K hK => ?_)
        go_simp; (skip; go_at_call 33; (with_reducible refine (sChainOk_r _ b _ (FINb.out _ S.frame) O1.out).mono ?_); rintro e w9 ⟨rfl, f9⟩; replace S := S.fr f9; clear f9)
        (first | refine hK.out _ _ (S.sub subA) (fun _ => ?_) | (go_wp2_with fail; refine hK.out _ _ (S.sub subA) (fun _ => ?_)))
        clear hK K
        (try simp only [Act.put, List.setIfInBounds_toArray, List.set_cons_zero, List.set_cons_succ])
        refine tk 2 ?_
        (try simp only [Act.put, List.setIfInBounds_toArray, List.set_cons_zero, List.set_cons_succ])
        refine tk 3 ?_
        (try simp only [Act.put, List.setIfInBounds_toArray, List.set_cons_zero, List.set_cons_succ])
        refine tk 4 ?_
        (try simp only [Act.put, List.setIfInBounds_toArray, List.set_cons_zero, List.set_cons_succ])
        refine tk 5 ?_
        (try simp only [Act.put, List.setIfInBounds_toArray, List.set_cons_zero, List.set_cons_succ])
        refine tk 6 ?_
        (try simp only [Act.put, List.setIfInBounds_toArray, List.set_cons_zero, List.set_cons_succ])
        refine tk 7 ?_
        (try simp only [Act.put, List.setIfInBounds_toArray, List.set_cons_zero, List.set_cons_succ])
        refine tk 8 ?_
        (try simp only [Act.put, List.setIfInBounds_toArray, List.set_cons_zero, List.set_cons_succ])
        refine tk 9 ?_
        (try simp only [Act.put, List.setIfInBounds_toArray, List.set_cons_zero, List.set_cons_succ])
        refine tk 10 ?_
        (try simp only [Act.put, List.setIfInBounds_toArray, List.set_cons_zero, List.set_cons_succ])
        refine tk 11 ?_
        (try simp only [Act.put, List.setIfInBounds_toArray, List.set_cons_zero, List.set_cons_succ])
        refine tk 12 ?_
        (try simp only [Act.put, List.setIfInBounds_toArray, List.set_cons_zero, List.set_cons_succ])
        refine rdy1 13 (fun K hK => ?_)
        go_simp
        (first | refine hK.out _ _ (S.sub subA) (fun _ => ?_) | (go_wp2_with fail; refine hK.out _ _ (S.sub subA) (fun _ => ?_)))
        clear hK K
        (try simp only [Act.put, List.setIfInBounds_toArray, List.set_cons_zero, List.set_cons_succ])
        refine tk 14 ?_
        (try simp only [Act.put, List.setIfInBounds_toArray, List.set_cons_zero, List.set_cons_succ])
        refine tk 15 ?_
        (try simp only [Act.put, List.setIfInBounds_toArray, List.set_cons_zero, List.set_cons_succ])
        refine tk 16 ?_
        (try simp only [Act.put, List.setIfInBounds_toArray, List.set_cons_zero, List.set_cons_succ])
        refine tk 17 ?_
        (try simp only [Act.put, List.setIfInBounds_toArray, List.set_cons_zero, List.set_cons_succ])
        refine tk 18 ?_
        (try simp only [Act.put, List.setIfInBounds_toArray, List.set_cons_zero, List.set_cons_succ])
        refine tk 19 ?_
        (try simp only [Act.put, List.setIfInBounds_toArray, List.set_cons_zero, List.set_cons_succ])
        refine tk 24 ?_
        (try simp only [Act.put, List.setIfInBounds_toArray, List.set_cons_zero, List.set_cons_succ])
        refine tk 25 ?_
        (try simp only [Act.put, List.setIfInBounds_toArray, List.set_cons_zero, List.set_cons_succ])
        refine tk 26 ?_
        (try simp only [Act.put, List.setIfInBounds_toArray, List.set_cons_zero, List.set_cons_succ])
        refine tk 27 ?_
        (try simp only [Act.put, List.setIfInBounds_toArray, List.set_cons_zero, List.set_cons_succ])
        refine tk 28 ?_
        (try simp only [Act.put, List.setIfInBounds_toArray, List.set_cons_zero, List.set_cons_succ])
        refine tk 29 ?_
        (try simp only [Act.put, List.setIfInBounds_toArray, List.set_cons_zero, List.set_cons_succ])
        refine tk 30 ?_ (hy := by first | exact yRc (fun w' h => h.frame.cell P1.out) | (refine Or.inr ⟨by rfl, ?_⟩; rfl))
        (try simp only [Act.put, List.setIfInBounds_toArray, List.set_cons_zero, List.set_cons_succ])
        refine rdys [20, 31] ?_
        refine rdc 20 (fun K hK => ?_) ?_
        · go_simp
          (first | refine hK.out _ _ (S.sub subA) (fun _ => ?_) | (go_wp2_with fail; refine hK.out _ _ (S.sub subA) (fun _ => ?_)))
          clear hK K
          (try simp only [Act.put, List.setIfInBounds_toArray, List.set_cons_zero, List.set_cons_succ])
          refine tk 21 ?_
          (try simp only [Act.put, List.setIfInBounds_toArray, List.set_cons_zero, List.set_cons_succ])
          refine tk 22 ?_
          (try simp only [Act.put, List.setIfInBounds_toArray, List.set_cons_zero, List.set_cons_succ])
          refine tk 23 ?_ (hy := by first | exact yRc (fun w' h => h.frame.cell K1.out) | (refine Or.inr ⟨by rfl, ?_⟩; rfl))
          (try simp only [Act.put, List.setIfInBounds_toArray, List.set_cons_zero, List.set_cons_succ])
          refine rdy1 31 (fun K hK => ?_)
          go_simp
          (first | refine hK.out _ _ (S.sub subA) (fun _ => ?_) | (go_wp2_with fail; refine hK.out _ _ (S.sub subA) (fun _ => ?_)))
          clear hK K
          (try simp only [Act.put, List.setIfInBounds_toArray, List.set_cons_zero, List.set_cons_succ])
          refine tk 32 ?_
          (try simp only [Act.put, List.setIfInBounds_toArray, List.set_cons_zero, List.set_cons_succ])
          refine tk 33 ?_
          (try simp only [Act.put, List.setIfInBounds_toArray, List.set_cons_zero, List.set_cons_succ])
          refine tk 34 ?_
          (try simp only [Act.put, List.setIfInBounds_toArray, List.set_cons_zero, List.set_cons_succ])
          refine wpAnyH_done (by kernel_rfl) ?_ _
          refine NoPanic.normal ?_
          go_wp2
          go_roundw
          case rel => exact ⟨2, by omega, rfl, fun _ => A0.out (by decide), fun _ => R.out, (Sep.only1 (a1 := aBox gW _ _ _) S delA)⟩
          case measure => decide
        refine rdc 31 (fun K hK => ?_) AllReadyH.nil
        go_simp
        (first | refine hK.out _ _ (S.sub subA) (fun _ => ?_) | (go_wp2_with fail; refine hK.out _ _ (S.sub subA) (fun _ => ?_)))
        clear hK K
        (try simp only [Act.put, List.setIfInBounds_toArray, List.set_cons_zero, List.set_cons_succ])
        refine rdy1 20 (fun K hK => ?_)
        go_simp
        (first | refine hK.out _ _ (S.sub subA) (fun _ => ?_) | (go_wp2_with fail; refine hK.out _ _ (S.sub subA) (fun _ => ?_)))
        clear hK K
        (try simp only [Act.put, List.setIfInBounds_toArray, List.set_cons_zero, List.set_cons_succ])
        refine tk 21 ?_
        (try simp only [Act.put, List.setIfInBounds_toArray, List.set_cons_zero, List.set_cons_succ])
        refine tk 22 ?_
        (try simp only [Act.put, List.setIfInBounds_toArray, List.set_cons_zero, List.set_cons_succ])
        refine tk 23 ?_ (hy := by first | exact yRc (fun w' h => h.frame.cell K1.out) | (refine Or.inr ⟨by rfl, ?_⟩; rfl))
        (try simp only [Act.put, List.setIfInBounds_toArray, List.set_cons_zero, List.set_cons_succ])
        refine tk 32 ?_
        (try simp only [Act.put, List.setIfInBounds_toArray, List.set_cons_zero, List.set_cons_succ])
        refine tk 33 ?_
        (try simp only [Act.put, List.setIfInBounds_toArray, List.set_cons_zero, List.set_cons_succ])
        refine tk 34 ?_
        (try simp only [Act.put, List.setIfInBounds_toArray, List.set_cons_zero, List.set_cons_succ])
        refine wpAnyH_done (by kernel_rfl) ?_ _
        refine NoPanic.normal ?_
        go_wp2
        go_roundw
        case rel => exact ⟨2, by omega, rfl, fun _ => A0.out (by decide), fun _ => R.out, (Sep.only1 (a1 := aBox gW _ _ _) S delA)⟩
        case measure => decide
      · have hlt : m < b.knows.length := by omega
        obtain ⟨ad2, e2, g2⟩ := row_int_at hb14 m hlt
        cases e2
        obtain ⟨y, hy⟩ : ∃ y, b.knows[m] = y := ⟨_, rfl⟩
        have R1 := Lib.hid (wAt_last (n := a.past.length) O1.out E1.out hm hlt hy)
        rw [hy] at g2
        have K1 := Lib.hid g2
        have d2 : decide ((0 : Int) < (b.knows.length : Int)) = true := decide_eq_true (by omega)
        have d2n : decide (0 < b.knows.length) = true := decide_eq_true (by omega)
        have q0 : (0 : Int) ≤ (m : Int) := Int.natCast_nonneg _
        have q1 : (m : Int) < (b.knows.length : Int) := by omega
        have w1 : IntKind.i64.wrap ((b.knows.length : Int) - 1) = (m : Int) := by rw [show (b.knows.length : Int) - 1 = (m : Int) by omega]; exact IntWalk.i64_in _ (by omega)
        clear g2 hy hm gA gB
        by_cases e3 : y ≤ (a.past.length : Int)
        · have R := Lib.hid (R1.out.trans (decide_eq_true e3))
          have d3 : decide ((a.past.length : Int) < y) = false := decide_eq_false (by omega)
          clear e3
          go_wp2_with (first
            | ((with_reducible refine gate_dst (N := 17) rfl ?_); refine aRw (G1.out.fr S.frame) ?_)
            | ((with_reducible refine gate_dst (N := 4) rfl ?_); refine aAl S ?_; clear S; intro gC w9 z9 S)
            | ((with_reducible refine gate_box rfl ?_); refine aBx S ?_; clear S; intro g9 w9 z9 S) | ((with_reducible refine gate_alloc rfl ?_); refine aAl S ?_; clear S; intro g9 w9 z9 S) | ((with_reducible refine gate_load rfl ?_); first | refine aLd S ?_ | refine aPt S ?_ | refine aL1 S ?_) | ((with_reducible refine gate_st rfl ?_); (first | refine aS1 S ?_ | refine aSt S ?_ | refine aSp S ?_); clear S; intro w9 S))
          have S0 := S
          refine wp_region_noPanic ?_
          refine wp_region_held_drew (S := Sep _ _ _) (by kernel_rfl) S0.drew (fun _ => ?_)
          replace S := S.drew
          clear S0
          refine tk 0 ?_
          (try simp only [Act.put, List.setIfInBounds_toArray, List.set_cons_zero, List.set_cons_succ])
          refine rdy1 1 (fun K hK => ?_)
          go_simp; (skip; go_at_call 33; (with_reducible refine (sChainOk_r _ b _ (FINb.out _ S.frame) O1.out).mono ?_); rintro e w9 ⟨rfl, f9⟩; replace S := S.fr f9; clear f9)
          (first | refine hK.out _ _ (S.sub subA) (fun _ => ?_) | (go_wp2_with fail; refine hK.out _ _ (S.sub subA) (fun _ => ?_)))
          clear hK K
          (try simp only [Act.put, List.setIfInBounds_toArray, List.set_cons_zero, List.set_cons_succ])
          refine tk 2 ?_
          (try simp only [Act.put, List.setIfInBounds_toArray, List.set_cons_zero, List.set_cons_succ])
          refine tk 3 ?_
          (try simp only [Act.put, List.setIfInBounds_toArray, List.set_cons_zero, List.set_cons_succ])
          refine tk 4 ?_
          (try simp only [Act.put, List.setIfInBounds_toArray, List.set_cons_zero, List.set_cons_succ])
          refine tk 5 ?_
          (try simp only [Act.put, List.setIfInBounds_toArray, List.set_cons_zero, List.set_cons_succ])
          refine tk 6 ?_
          (try simp only [Act.put, List.setIfInBounds_toArray, List.set_cons_zero, List.set_cons_succ])
          refine tk 7 ?_
          (try simp only [Act.put, List.setIfInBounds_toArray, List.set_cons_zero, List.set_cons_succ])
          refine tk 8 ?_
          (try simp only [Act.put, List.setIfInBounds_toArray, List.set_cons_zero, List.set_cons_succ])
          refine tk 9 ?_
          (try simp only [Act.put, List.setIfInBounds_toArray, List.set_cons_zero, List.set_cons_succ])
          refine tk 10 ?_
          (try simp only [Act.put, List.setIfInBounds_toArray, List.set_cons_zero, List.set_cons_succ])
          refine tk 11 ?_
          (try simp only [Act.put, List.setIfInBounds_toArray, List.set_cons_zero, List.set_cons_succ])
          refine tk 12 ?_
          (try simp only [Act.put, List.setIfInBounds_toArray, List.set_cons_zero, List.set_cons_succ])
          refine rdy1 13 (fun K hK => ?_)
          go_simp
          (first | refine hK.out _ _ (S.sub subA) (fun _ => ?_) | (go_wp2_with fail; refine hK.out _ _ (S.sub subA) (fun _ => ?_)))
          clear hK K
          (try simp only [Act.put, List.setIfInBounds_toArray, List.set_cons_zero, List.set_cons_succ])
          refine tk 14 ?_
          (try simp only [Act.put, List.setIfInBounds_toArray, List.set_cons_zero, List.set_cons_succ])
          refine tk 15 ?_
          (try simp only [Act.put, List.setIfInBounds_toArray, List.set_cons_zero, List.set_cons_succ])
          refine tk 16 ?_
          (try simp only [Act.put, List.setIfInBounds_toArray, List.set_cons_zero, List.set_cons_succ])
          refine tk 17 ?_
          (try simp only [Act.put, List.setIfInBounds_toArray, List.set_cons_zero, List.set_cons_succ])
          refine tk 18 ?_
          (try simp only [Act.put, List.setIfInBounds_toArray, List.set_cons_zero, List.set_cons_succ])
          refine tk 19 ?_
          (try simp only [Act.put, List.setIfInBounds_toArray, List.set_cons_zero, List.set_cons_succ])
          refine tk 24 ?_
          (try simp only [Act.put, List.setIfInBounds_toArray, List.set_cons_zero, List.set_cons_succ])
          refine tk 25 ?_
          (try simp only [Act.put, List.setIfInBounds_toArray, List.set_cons_zero, List.set_cons_succ])
          refine tk 26 ?_
          (try simp only [Act.put, List.setIfInBounds_toArray, List.set_cons_zero, List.set_cons_succ])
          refine tk 27 ?_
          (try simp only [Act.put, List.setIfInBounds_toArray, List.set_cons_zero, List.set_cons_succ])
          refine tk 28 ?_
          (try simp only [Act.put, List.setIfInBounds_toArray, List.set_cons_zero, List.set_cons_succ])
          refine tk 29 ?_
          (try simp only [Act.put, List.setIfInBounds_toArray, List.set_cons_zero, List.set_cons_succ])
          refine tk 30 ?_ (hy := by first | exact yRc (fun w' h => h.frame.cell P1.out) | (refine Or.inr ⟨by rfl, ?_⟩; rfl))
          (try simp only [Act.put, List.setIfInBounds_toArray, List.set_cons_zero, List.set_cons_succ])
          refine rdys [20, 31] ?_
          refine rdc 20 (fun K hK => ?_) ?_
          · go_simp
            (first | refine hK.out _ _ (S.sub subA) (fun _ => ?_) | (go_wp2_with fail; refine hK.out _ _ (S.sub subA) (fun _ => ?_)))
            clear hK K
            (try simp only [Act.put, List.setIfInBounds_toArray, List.set_cons_zero, List.set_cons_succ])
            refine tk 21 ?_
            (try simp only [Act.put, List.setIfInBounds_toArray, List.set_cons_zero, List.set_cons_succ])
            refine tk 22 ?_
            (try simp only [Act.put, List.setIfInBounds_toArray, List.set_cons_zero, List.set_cons_succ])
            refine tk 23 ?_ (hy := by first | exact yRc (fun w' h => h.frame.cell K1.out) | (refine Or.inr ⟨by rfl, ?_⟩; rfl))
            (try simp only [Act.put, List.setIfInBounds_toArray, List.set_cons_zero, List.set_cons_succ])
            refine rdy1 31 (fun K hK => ?_)
            go_simp
            (first | refine hK.out _ _ (S.sub subA) (fun _ => ?_) | (go_wp2_with fail; refine hK.out _ _ (S.sub subA) (fun _ => ?_)))
            clear hK K
            (try simp only [Act.put, List.setIfInBounds_toArray, List.set_cons_zero, List.set_cons_succ])
            refine tk 32 ?_
            (try simp only [Act.put, List.setIfInBounds_toArray, List.set_cons_zero, List.set_cons_succ])
            refine tk 33 ?_
            (try simp only [Act.put, List.setIfInBounds_toArray, List.set_cons_zero, List.set_cons_succ])
            refine tk 34 ?_
            (try simp only [Act.put, List.setIfInBounds_toArray, List.set_cons_zero, List.set_cons_succ])
            refine wpAnyH_done (by kernel_rfl) ?_ _
            refine NoPanic.normal ?_
            go_wp2
            go_roundw
            case rel => exact ⟨2, by omega, rfl, fun _ => A0.out (by decide), fun _ => R.out, (Sep.only1 (a1 := aBox gW _ _ _) S delA)⟩
            case measure => decide
          refine rdc 31 (fun K hK => ?_) AllReadyH.nil
          go_simp
          (first | refine hK.out _ _ (S.sub subA) (fun _ => ?_) | (go_wp2_with fail; refine hK.out _ _ (S.sub subA) (fun _ => ?_)))
          clear hK K
          (try simp only [Act.put, List.setIfInBounds_toArray, List.set_cons_zero, List.set_cons_succ])
          refine rdy1 20 (fun K hK => ?_)
          go_simp
          (first | refine hK.out _ _ (S.sub subA) (fun _ => ?_) | (go_wp2_with fail; refine hK.out _ _ (S.sub subA) (fun _ => ?_)))
          clear hK K
          (try simp only [Act.put, List.setIfInBounds_toArray, List.set_cons_zero, List.set_cons_succ])
          refine tk 21 ?_
          (try simp only [Act.put, List.setIfInBounds_toArray, List.set_cons_zero, List.set_cons_succ])
          refine tk 22 ?_
          (try simp only [Act.put, List.setIfInBounds_toArray, List.set_cons_zero, List.set_cons_succ])
          refine tk 23 ?_ (hy := by first | exact yRc (fun w' h => h.frame.cell K1.out) | (refine Or.inr ⟨by rfl, ?_⟩; rfl))
          (try simp only [Act.put, List.setIfInBounds_toArray, List.set_cons_zero, List.set_cons_succ])
          refine tk 32 ?_
          (try simp only [Act.put, List.setIfInBounds_toArray, List.set_cons_zero, List.set_cons_succ])
          refine tk 33 ?_
          (try simp only [Act.put, List.setIfInBounds_toArray, List.set_cons_zero, List.set_cons_succ])
          refine tk 34 ?_
          (try simp only [Act.put, List.setIfInBounds_toArray, List.set_cons_zero, List.set_cons_succ])
          refine wpAnyH_done (by kernel_rfl) ?_ _
          refine NoPanic.normal ?_
          go_wp2
          go_roundw
          case rel => exact ⟨2, by omega, rfl, fun _ => A0.out (by decide), fun _ => R.out, (Sep.only1 (a1 := aBox gW _ _ _) S delA)⟩
          case measure => decide
        · have R := Lib.hid (show false = okWd ⟨[a, b]⟩ by rw [R0.out, R1.out.trans (decide_eq_false e3), Bool.and_false])
          have d3 : decide ((a.past.length : Int) < y) = true := decide_eq_true (by omega)
          clear e3
          go_wp2_with (first
            | ((with_reducible refine gate_dst (N := 17) rfl ?_); refine aRw (G1.out.fr S.frame) ?_)
            | ((with_reducible refine gate_dst (N := 4) rfl ?_); refine aAl S ?_; clear S; intro gC w9 z9 S)
            | ((with_reducible refine gate_box rfl ?_); refine aBx S ?_; clear S; intro g9 w9 z9 S) | ((with_reducible refine gate_alloc rfl ?_); refine aAl S ?_; clear S; intro g9 w9 z9 S) | ((with_reducible refine gate_load rfl ?_); first | refine aLd S ?_ | refine aPt S ?_ | refine aL1 S ?_) | ((with_reducible refine gate_st rfl ?_); (first | refine aS1 S ?_ | refine aSt S ?_ | refine aSp S ?_); clear S; intro w9 S))
          have S0 := S
          refine wp_region_noPanic ?_
          refine wp_region_held_drew (S := Sep _ _ _) (by kernel_rfl) S0.drew (fun _ => ?_)
          replace S := S.drew
          clear S0
          refine tk 0 ?_
          (try simp only [Act.put, List.setIfInBounds_toArray, List.set_cons_zero, List.set_cons_succ])
          refine rdy1 1 (fun K hK => ?_)
          go_simp; (skip; go_at_call 33; (with_reducible refine (sChainOk_r _ b _ (FINb.out _ S.frame) O1.out).mono ?_); rintro e w9 ⟨rfl, f9⟩; replace S := S.fr f9; clear f9)
          (first | refine hK.out _ _ (S.sub subA) (fun _ => ?_) | (go_wp2_with fail; refine hK.out _ _ (S.sub subA) (fun _ => ?_)))
          clear hK K
          (try simp only [Act.put, List.setIfInBounds_toArray, List.set_cons_zero, List.set_cons_succ])
          refine tk 2 ?_
          (try simp only [Act.put, List.setIfInBounds_toArray, List.set_cons_zero, List.set_cons_succ])
          refine tk 3 ?_
          (try simp only [Act.put, List.setIfInBounds_toArray, List.set_cons_zero, List.set_cons_succ])
          refine tk 4 ?_
          (try simp only [Act.put, List.setIfInBounds_toArray, List.set_cons_zero, List.set_cons_succ])
          refine tk 5 ?_
          (try simp only [Act.put, List.setIfInBounds_toArray, List.set_cons_zero, List.set_cons_succ])
          refine tk 6 ?_
          (try simp only [Act.put, List.setIfInBounds_toArray, List.set_cons_zero, List.set_cons_succ])
          refine tk 7 ?_
          (try simp only [Act.put, List.setIfInBounds_toArray, List.set_cons_zero, List.set_cons_succ])
          refine tk 8 ?_
          (try simp only [Act.put, List.setIfInBounds_toArray, List.set_cons_zero, List.set_cons_succ])
          refine tk 9 ?_
          (try simp only [Act.put, List.setIfInBounds_toArray, List.set_cons_zero, List.set_cons_succ])
          refine tk 10 ?_
          (try simp only [Act.put, List.setIfInBounds_toArray, List.set_cons_zero, List.set_cons_succ])
          refine tk 11 ?_
          (try simp only [Act.put, List.setIfInBounds_toArray, List.set_cons_zero, List.set_cons_succ])
          refine tk 12 ?_
          (try simp only [Act.put, List.setIfInBounds_toArray, List.set_cons_zero, List.set_cons_succ])
          refine rdy1 13 (fun K hK => ?_)
          go_simp
          (first | refine hK.out _ _ (S.sub subA) (fun _ => ?_) | (go_wp2_with fail; refine hK.out _ _ (S.sub subA) (fun _ => ?_)))
          clear hK K
          (try simp only [Act.put, List.setIfInBounds_toArray, List.set_cons_zero, List.set_cons_succ])
          refine tk 14 ?_
          (try simp only [Act.put, List.setIfInBounds_toArray, List.set_cons_zero, List.set_cons_succ])
          refine tk 15 ?_
          (try simp only [Act.put, List.setIfInBounds_toArray, List.set_cons_zero, List.set_cons_succ])
          refine tk 16 ?_
          (try simp only [Act.put, List.setIfInBounds_toArray, List.set_cons_zero, List.set_cons_succ])
          refine tk 17 ?_
          (try simp only [Act.put, List.setIfInBounds_toArray, List.set_cons_zero, List.set_cons_succ])
          refine tk 18 ?_
          (try simp only [Act.put, List.setIfInBounds_toArray, List.set_cons_zero, List.set_cons_succ])
          refine tk 19 ?_
          (try simp only [Act.put, List.setIfInBounds_toArray, List.set_cons_zero, List.set_cons_succ])
          refine tk 24 ?_
          (try simp only [Act.put, List.setIfInBounds_toArray, List.set_cons_zero, List.set_cons_succ])
          refine tk 25 ?_
          (try simp only [Act.put, List.setIfInBounds_toArray, List.set_cons_zero, List.set_cons_succ])
          refine tk 26 ?_
          (try simp only [Act.put, List.setIfInBounds_toArray, List.set_cons_zero, List.set_cons_succ])
          refine tk 27 ?_
          (try simp only [Act.put, List.setIfInBounds_toArray, List.set_cons_zero, List.set_cons_succ])
          refine tk 28 ?_
          (try simp only [Act.put, List.setIfInBounds_toArray, List.set_cons_zero, List.set_cons_succ])
          refine tk 29 ?_
          (try simp only [Act.put, List.setIfInBounds_toArray, List.set_cons_zero, List.set_cons_succ])
          refine tk 30 ?_ (hy := by first | exact yRc (fun w' h => h.frame.cell P1.out) | (refine Or.inr ⟨by rfl, ?_⟩; rfl))
          (try simp only [Act.put, List.setIfInBounds_toArray, List.set_cons_zero, List.set_cons_succ])
          refine rdys [20, 31] ?_
          refine rdc 20 (fun K hK => ?_) ?_
          · go_simp
            (first | refine hK.out _ _ (S.sub subA) (fun _ => ?_) | (go_wp2_with fail; refine hK.out _ _ (S.sub subA) (fun _ => ?_)))
            clear hK K
            (try simp only [Act.put, List.setIfInBounds_toArray, List.set_cons_zero, List.set_cons_succ])
            refine tk 21 ?_
            (try simp only [Act.put, List.setIfInBounds_toArray, List.set_cons_zero, List.set_cons_succ])
            refine tk 22 ?_
            (try simp only [Act.put, List.setIfInBounds_toArray, List.set_cons_zero, List.set_cons_succ])
            refine tk 23 ?_ (hy := by first | exact yRc (fun w' h => h.frame.cell K1.out) | (refine Or.inr ⟨by rfl, ?_⟩; rfl))
            (try simp only [Act.put, List.setIfInBounds_toArray, List.set_cons_zero, List.set_cons_succ])
            refine rdy1 31 (fun K hK => ?_)
            go_simp
            (first | refine hK.out _ _ (S.sub subA) (fun _ => ?_) | (go_wp2_with fail; refine hK.out _ _ (S.sub subA) (fun _ => ?_)))
            clear hK K
            (try simp only [Act.put, List.setIfInBounds_toArray, List.set_cons_zero, List.set_cons_succ])
            refine tk 32 ?_
            (try simp only [Act.put, List.setIfInBounds_toArray, List.set_cons_zero, List.set_cons_succ])
            refine tk 33 ?_
            (try simp only [Act.put, List.setIfInBounds_toArray, List.set_cons_zero, List.set_cons_succ])
            refine tk 34 ?_
            (try simp only [Act.put, List.setIfInBounds_toArray, List.set_cons_zero, List.set_cons_succ])
            refine wpAnyH_done (by kernel_rfl) ?_ _
            refine NoPanic.normal ?_
            go_wp2
            go_ret
            exact ⟨ret_bool R.out, S.frame⟩
          refine rdc 31 (fun K hK => ?_) AllReadyH.nil
          go_simp
          (first | refine hK.out _ _ (S.sub subA) (fun _ => ?_) | (go_wp2_with fail; refine hK.out _ _ (S.sub subA) (fun _ => ?_)))
          clear hK K
          (try simp only [Act.put, List.setIfInBounds_toArray, List.set_cons_zero, List.set_cons_succ])
          refine rdy1 20 (fun K hK => ?_)
          go_simp
          (first | refine hK.out _ _ (S.sub subA) (fun _ => ?_) | (go_wp2_with fail; refine hK.out _ _ (S.sub subA) (fun _ => ?_)))
          clear hK K
          (try simp only [Act.put, List.setIfInBounds_toArray, List.set_cons_zero, List.set_cons_succ])
          refine tk 21 ?_
          (try simp only [Act.put, List.setIfInBounds_toArray, List.set_cons_zero, List.set_cons_succ])
          refine tk 22 ?_
          (try simp only [Act.put, List.setIfInBounds_toArray, List.set_cons_zero, List.set_cons_succ])
          refine tk 23 ?_ (hy := by first | exact yRc (fun w' h => h.frame.cell K1.out) | (refine Or.inr ⟨by rfl, ?_⟩; rfl))
          (try simp only [Act.put, List.setIfInBounds_toArray, List.set_cons_zero, List.set_cons_succ])
          refine tk 32 ?_
          (try simp only [Act.put, List.setIfInBounds_toArray, List.set_cons_zero, List.set_cons_succ])
          refine tk 33 ?_
          (try simp only [Act.put, List.setIfInBounds_toArray, List.set_cons_zero, List.set_cons_succ])
          refine tk 34 ?_
          (try simp only [Act.put, List.setIfInBounds_toArray, List.set_cons_zero, List.set_cons_succ])
          refine wpAnyH_done (by kernel_rfl) ?_ _
          refine NoPanic.normal ?_
          go_wp2
          go_ret
          exact ⟨ret_bool R.out, S.frame⟩
    · have R := Lib.hid (show true = okWd ⟨[a, b]⟩ by rw [R0.out, A0.out (by decide), A1.out (by decide)]; rfl)
      go_wp2_with (first | ((with_reducible refine gate_box rfl ?_); refine aBx S ?_; clear S; intro g9 w9 z9 S) | ((with_reducible refine gate_alloc rfl ?_); refine aAl S ?_; clear S; intro g9 w9 z9 S) | ((with_reducible refine gate_load rfl ?_); first | refine aLd S ?_ | refine aPt S ?_ | refine aL1 S ?_) | ((with_reducible refine gate_st rfl ?_); (first | refine aS1 S ?_ | refine aSt S ?_ | refine aSp S ?_); clear S; intro w9 S))
      go_ret
      exact ⟨ret_bool R.out, S.frame⟩
theorem WorldOk_r (w : World) (x : Wd) (c1 : List Value) (h1 : tWd.rd w x c1) {r : Bool} (h : okWd x = r) : Calls Try.prog 40 #[.agg c1.toArray] w (Ret (.bool r) w) := h ▸ WorldOk_c w x c1 h1
theorem sWorldOk_r (w : World) (x : Wd) (c1 : List Value) (h1 : tWd.rd w x c1) {r : Bool} (h : okWd x = r) : Calls Try.prog 38 #[.agg c1.toArray] w (Ret (.bool r) w) := h ▸ sWorldOk_c w x c1 h1
end Go.Proofs.Ytapdcgjccckjeaa
