/- Which states are ok; the program's StateOk. -/
import Derived.Test.YtapdcgjccckjeaaStHelp
import Derived.Test.YtapdcgjccckjeaaPkRd
namespace Go.Proofs.Ytapdcgjccckjeaa
set_option maxRecDepth 100000
set_option linter.unusedVariables false
set_option linter.unusedSimpArgs false
open Go.RowKit
def rng2 (x : Int) : Bool := decide (0 ≤ x ∧ x ≤ 2)
def gotOk (gs : List Int) : Bool := gs.length == 8 && gs.all rng2
def pkAtOk (v : Int) (k : Nat) (x : Pk) (l b : Bool) : Bool := okPk x && decide (x.seq = (k : Int) + 1) && !(l && b) && decide (x.ver ≤ v)
def pksOk (s : St) (k : Nat) : Bool := pkAtOk s.vsn k (s.sent.getD k zPk) (s.live.getD k false) (s.back.getD k false)
def sentOk (s : St) : Bool := decide (s.sent.length ≤ 8) && s.live.length == s.sent.length && s.back.length == s.sent.length && (List.range s.sent.length).all (pksOk s)
def wantOk (s : St) : Bool := if s.way = 4 then decide (s.want = s.vsn + 1) && decide (s.want ≤ 9) else s.want == 0
def okSt (s : St) : Bool := decide (0 ≤ s.way ∧ s.way ≤ 4) && decide (1 ≤ s.vsn ∧ s.vsn ≤ 9) && wantOk s && sentOk s && gotOk s.got
theorem sentOk_bad {s : St} {k : Nat} (hk : k < s.sent.length) (h : pksOk s k = false) : sentOk s = false := by
  cases e : sentOk s with
  | false => rfl
  | true =>
    simp only [sentOk, Bool.and_eq_true, List.all_eq_true] at e
    have := e.2 k (List.mem_range.2 hk)
    rw [h] at this
    cases this
theorem range_all_succ {p : Nat → Bool} {k : Nat} (h : (List.range k).all p = true) (hk : p k = true) : (List.range (k + 1)).all p = true := by
  rw [List.range_succ, List.all_append, h]
  simp [hk]
theorem pksOk_at {s : St} {k : Nat} (h1 : k < s.sent.length) (h2 : k < s.live.length) (h3 : k < s.back.length) : pksOk s k = pkAtOk s.vsn k s.sent[k] s.live[k] s.back[k] := by
  simp [pksOk, h1, h2, h3]
theorem gotOk_bad {gs : List Int} {k : Nat} (hk : k < gs.length) (h : rng2 gs[k] = false) : gotOk gs = false := by
  cases e : gotOk gs with
  | false => rfl
  | true =>
    simp only [gotOk, Bool.and_eq_true, List.all_eq_true] at e
    have := e.2 _ (List.getElem_mem hk)
    rw [h] at this
    cases this
theorem allr_succ {gs : List Int} {k : Nat} (hk : k < gs.length) (h : (gs.take k).all rng2 = true) (hr : rng2 gs[k] = true) : (gs.take (k + 1)).all rng2 = true := by
  rw [List.take_succ_eq_append_getElem hk, List.all_append, h]
  simp [hr]
/-- The cells of a state's own struct. -/
def stCells (s : St) (A1 A2 A3 A4 : Option Addr) (c1 c2 c3 c4 : Nat) : List Value := [.int .i64 s.way, .int .i64 s.vsn, .int .i64 s.want, .slice A1 s.sent.length c1, .slice A2 s.live.length c2, .slice A3 s.back.length c3, .slice A4 s.got.length c4]
set_option maxRecDepth 100000 in
set_option maxHeartbeats 3200000 in
theorem stateSentOk_c (w : World) (s : St) (c0 : List Value) (h1 : tSt.rd w s c0) : Calls Try.prog 121 #[.agg c0.toArray] w (Ret (.bool (sentOk s)) w) := by
  obtain ⟨v1, v2, v3, v4, rfl, h11, h12, h13, h14, h15⟩ := h1
  obtain ⟨A1, c1, rfl⟩ := h11.val
  obtain ⟨A2, c2, rfl⟩ := h12.val
  obtain ⟨A3, c3, rfl⟩ := h13.val
  obtain ⟨A4, c4, rfl⟩ := h14.val
  have m1 := h11.le
  have m2 := h12.le
  have m3 := h13.le
  have S := Sep.start w
  clear h15
  by_cases e1 : s.sent.length ≤ 8
  case neg =>
    have r := Lib.hid (show sentOk s = false by simp [sentOk, e1])
    have t1 : decide (8 < s.sent.length) = true := decide_eq_true (by omega)
    have t1' : decide ((8 : Int) < (s.sent.length : Int)) = true := decide_eq_true (by omega)
    clear e1
    go_enter Try.func121, Try.ntmps121
    go_wp2_with (first | ((with_reducible refine gate_box rfl ?_); refine aBx S ?_; clear S; intro g9 w9 z9 S) | ((with_reducible refine gate_load rfl ?_); first | refine aLd S ?_ | refine aPt S ?_ | refine aL1 S ?_))
    go_ret
    exact ⟨by rw [r.out]; rfl, S.frame⟩
  have t1' : decide ((8 : Int) < (s.sent.length : Int)) = false := decide_eq_false (by omega)
  by_cases e2 : s.live.length = s.sent.length
  case neg =>
    have r := Lib.hid (show sentOk s = false by simp [sentOk, e2])
    have t2 : ((s.live.length : Int) != (s.sent.length : Int)) = true := by simp; omega
    have t2' : ((s.live.length : Int) == (s.sent.length : Int)) = false := by simp; omega
    clear e2
    go_enter Try.func121, Try.ntmps121
    go_wp2_with (first | ((with_reducible refine gate_box rfl ?_); refine aBx S ?_; clear S; intro g9 w9 z9 S) | ((with_reducible refine gate_load rfl ?_); first | refine aLd S ?_ | refine aPt S ?_ | refine aL1 S ?_))
    go_ret
    exact ⟨by rw [r.out]; rfl, S.frame⟩
  by_cases e3 : s.back.length = s.sent.length
  case neg =>
    have r := Lib.hid (show sentOk s = false by simp [sentOk, e3])
    have t3 : ((s.back.length : Int) != (s.sent.length : Int)) = true := by simp; omega
    have t3' : ((s.back.length : Int) == (s.sent.length : Int)) = false := by simp; omega
    rw [e2]
    have E2 := Lib.hid e2
    clear e3 e2
    go_enter Try.func121, Try.ntmps121
    go_wp2_with (first | ((with_reducible refine gate_box rfl ?_); refine aBx S ?_; clear S; intro g9 w9 z9 S) | ((with_reducible refine gate_load rfl ?_); first | refine aLd S ?_ | refine aPt S ?_ | refine aL1 S ?_))
    go_ret
    exact ⟨by rw [r.out]; rfl, S.frame⟩
  obtain ⟨n, hn⟩ : ∃ n, s.sent.length = n := ⟨_, rfl⟩
  rw [hn] at e1 e2 e3 t1' m1 ⊢
  rw [e2, e3]
  have E1 := Lib.hid hn
  have E2 := Lib.hid e2
  have E3 := Lib.hid e3
  clear hn e2 e3 m1 m2 m3
  go_enter Try.func121, Try.ntmps121
  go_wp2_with (first
    | ((with_reducible refine gate_dst (N := 1) rfl ?_); refine aBx S ?_; clear S; intro gS w9 z9 S)
    | ((with_reducible refine gate_box rfl ?_); refine aBx S ?_; clear S; intro g9 w9 z9 S) | ((with_reducible refine gate_load rfl ?_); first | refine aLd S ?_ | refine aPt S ?_ | refine aL1 S ?_))
  go_loopw [30] (fun i wr => ∃ k : Nat, k ≤ n ∧ i = .int .i64 k ∧ (List.range k).all (pksOk s) = true ∧ Sep [] w [aBox gS 30 7 [.int .i64 s.way, .int .i64 s.vsn, .int .i64 s.want, .slice A1 n c1, .slice A2 n c2, .slice A3 n c3, .slice A4 s.got.length c4]] wr) (fun i _ => n - (intOf i).toNat)
  case atStart => exact ⟨0, Nat.zero_le _, rfl, rfl, S⟩
  case round =>
    clear S
    obtain ⟨k, hk, rfl, hall, S⟩ := hrel
    have HA := Lib.hid hall
    clear hall
    by_cases hlt : k < n
    · obtain ⟨ad1, rfl, g1⟩ := pkAt_of_row h11 k (by rw [E1.out]; exact hlt)
      obtain ⟨ad2, rfl, g2⟩ := row_bool_at h12 k (by rw [E2.out]; exact hlt)
      obtain ⟨ad3, rfl, g3⟩ := row_bool_at h13 k (by rw [E3.out]; exact hlt)
      have hat := pksOk_at (s := s) (k := k) (by rw [E1.out]; exact hlt) (by rw [E2.out]; exact hlt) (by rw [E3.out]; exact hlt)
      have hin : k < s.sent.length := by rw [E1.out]; exact hlt
      generalize s.sent[k]'(by rw [E1.out]; exact hlt) = x at *
      generalize s.live[k]'(by rw [E2.out]; exact hlt) = l at *
      generalize s.back[k]'(by rw [E3.out]; exact hlt) = b at *
      have HAT := Lib.hid hat
      have HIN := Lib.hid hin
      have G2 := Lib.hid g2
      have G3 := Lib.hid g3
      have p1 : (k : Int) < (n : Int) := by omega
      clear hat hin g2 g3
      cases o1 : okPk x with
      | false =>
        have O1 := Lib.hid o1
        have R := Lib.hid (sentOk_bad (s := s) (k := k) HIN.out (by rw [HAT.out]; simp [pkAtOk, o1]))
        clear o1
        go_wp2_with (first
          | ((with_reducible refine gate_dst (N := 34) rfl ?_); refine wpList_pkld (by rfl) 88 _ rfl rfl (g1.fr S.frame) _ Try.underlying88 rfl ts88 ?_)
          | (go_at_call 118; (with_reducible refine (PacketOk_l _ x).mono ?_); rintro e w9 ⟨rfl, f9⟩; rw [O1.out]; replace S := S.fr f9; clear f9)
          | ((with_reducible refine gate_dst (N := 4) rfl ?_); refine aAl S ?_; clear S; intro g9 w9 z9 S) | ((with_reducible refine gate_st rfl ?_); (first | refine aS1 S ?_ | refine aSt S ?_ | refine aSp S ?_); clear S; intro w9 S) | ((with_reducible refine gate_box rfl ?_); refine aBx S ?_; clear S; intro g9 w9 z9 S) | ((with_reducible refine gate_load rfl ?_); first | refine aLd S ?_ | refine aPt S ?_ | refine aL1 S ?_))
        go_ret
        exact ⟨by rw [R.out]; rfl, S.frame⟩
      | true =>
        have O1 := Lib.hid o1
        clear o1
        by_cases hq : x.seq = (k : Int) + 1
        case neg =>
          have tq : (x.seq != (k : Int) + 1) = true := by simpa using hq
          have tq' : (x.seq == (k : Int) + 1) = false := by simpa using hq
          have R := Lib.hid (sentOk_bad (s := s) (k := k) HIN.out (by rw [HAT.out]; simp [pkAtOk, O1.out, hq]))
          go_wp2_with (first
            | ((with_reducible refine gate_dst (N := 34) rfl ?_); refine wpList_pkld (by rfl) 88 _ rfl rfl (g1.fr S.frame) _ Try.underlying88 rfl ts88 ?_)
            | ((with_reducible refine gate_dst (N := 57) rfl ?_); refine wpList_rowint (by rfl) 4 _ rfl rfl (S.frame.cell G2.out) _ Try.underlying4 rfl ?_)
            | ((with_reducible refine gate_dst (N := 63) rfl ?_); refine wpList_rowint (by rfl) 4 _ rfl rfl (S.frame.cell G3.out) _ Try.underlying4 rfl ?_)
            | (go_at_call 118; (with_reducible refine (PacketOk_l _ x).mono ?_); rintro e w9 ⟨rfl, f9⟩; rw [O1.out]; replace S := S.fr f9; clear f9)
            | ((with_reducible refine gate_dst (N := 4) rfl ?_); refine aAl S ?_; clear S; intro g9 w9 z9 S) | ((with_reducible refine gate_st rfl ?_); (first | refine aS1 S ?_ | refine aSt S ?_ | refine aSp S ?_); clear S; intro w9 S) | ((with_reducible refine gate_box rfl ?_); refine aBx S ?_; clear S; intro g9 w9 z9 S) | ((with_reducible refine gate_load rfl ?_); first | refine aLd S ?_ | refine aPt S ?_ | refine aL1 S ?_))
          go_ret
          exact ⟨by rw [R.out]; rfl, S.frame⟩
        have tq : (x.seq != (k : Int) + 1) = false := by simpa using hq
        by_cases hv : x.ver ≤ s.vsn
        case neg =>
          have tv : decide (s.vsn < x.ver) = true := decide_eq_true (by omega)
          have Q := Lib.hid hq
          clear hq
          have R := Lib.hid (sentOk_bad (s := s) (k := k) HIN.out (by rw [HAT.out]; simp [pkAtOk, O1.out, hv]))
          go_wp2_with (first
            | ((with_reducible refine gate_dst (N := 34) rfl ?_); refine wpList_pkld (by rfl) 88 _ rfl rfl (g1.fr S.frame) _ Try.underlying88 rfl ts88 ?_)
            | ((with_reducible refine gate_dst (N := 57) rfl ?_); refine wpList_rowint (by rfl) 4 _ rfl rfl (S.frame.cell G2.out) _ Try.underlying4 rfl ?_)
            | ((with_reducible refine gate_dst (N := 63) rfl ?_); refine wpList_rowint (by rfl) 4 _ rfl rfl (S.frame.cell G3.out) _ Try.underlying4 rfl ?_)
            | (go_at_call 118; (with_reducible refine (PacketOk_l _ x).mono ?_); rintro e w9 ⟨rfl, f9⟩; rw [O1.out]; replace S := S.fr f9; clear f9)
            | ((with_reducible refine gate_dst (N := 4) rfl ?_); refine aAl S ?_; clear S; intro g9 w9 z9 S) | ((with_reducible refine gate_st rfl ?_); (first | refine aS1 S ?_ | refine aSt S ?_ | refine aSp S ?_); clear S; intro w9 S) | ((with_reducible refine gate_box rfl ?_); refine aBx S ?_; clear S; intro g9 w9 z9 S) | ((with_reducible refine gate_load rfl ?_); first | refine aLd S ?_ | refine aPt S ?_ | refine aL1 S ?_))
          go_ret
          exact ⟨by rw [R.out]; rfl, S.frame⟩
        have tv : decide (s.vsn < x.ver) = false := decide_eq_false (by omega)
        cases l with
        | false =>
          have R := Lib.hid (range_all_succ HA.out (by rw [HAT.out]; simp [pkAtOk, O1.out, hq, hv]))
          clear hq hv
          go_wp2_with (first
            | ((with_reducible refine gate_dst (N := 34) rfl ?_); refine wpList_pkld (by rfl) 88 _ rfl rfl (g1.fr S.frame) _ Try.underlying88 rfl ts88 ?_)
            | ((with_reducible refine gate_dst (N := 57) rfl ?_); refine wpList_rowint (by rfl) 4 _ rfl rfl (S.frame.cell G2.out) _ Try.underlying4 rfl ?_)
            | ((with_reducible refine gate_dst (N := 63) rfl ?_); refine wpList_rowint (by rfl) 4 _ rfl rfl (S.frame.cell G3.out) _ Try.underlying4 rfl ?_)
            | (go_at_call 118; (with_reducible refine (PacketOk_l _ x).mono ?_); rintro e w9 ⟨rfl, f9⟩; rw [O1.out]; replace S := S.fr f9; clear f9)
            | ((with_reducible refine gate_dst (N := 4) rfl ?_); refine aAl S ?_; clear S; intro g9 w9 z9 S) | ((with_reducible refine gate_st rfl ?_); (first | refine aS1 S ?_ | refine aSt S ?_ | refine aSp S ?_); clear S; intro w9 S) | ((with_reducible refine gate_box rfl ?_); refine aBx S ?_; clear S; intro g9 w9 z9 S) | ((with_reducible refine gate_load rfl ?_); first | refine aLd S ?_ | refine aPt S ?_ | refine aL1 S ?_))
          go_roundw
          case rel => exact ⟨k + 1, by omega, by go_num, R.out, (Sep.only1 (a1 := aBox gS _ _ _) S delA)⟩
          case measure => simp [intOf]; omega
        | true =>
          cases b with
          | false =>
            have R := Lib.hid (range_all_succ HA.out (by rw [HAT.out]; simp [pkAtOk, O1.out, hq, hv]))
            clear hq hv
            go_wp2_with (first
              | ((with_reducible refine gate_dst (N := 34) rfl ?_); refine wpList_pkld (by rfl) 88 _ rfl rfl (g1.fr S.frame) _ Try.underlying88 rfl ts88 ?_)
              | ((with_reducible refine gate_dst (N := 57) rfl ?_); refine wpList_rowint (by rfl) 4 _ rfl rfl (S.frame.cell G2.out) _ Try.underlying4 rfl ?_)
              | ((with_reducible refine gate_dst (N := 63) rfl ?_); refine wpList_rowint (by rfl) 4 _ rfl rfl (S.frame.cell G3.out) _ Try.underlying4 rfl ?_)
              | (go_at_call 118; (with_reducible refine (PacketOk_l _ x).mono ?_); rintro e w9 ⟨rfl, f9⟩; rw [O1.out]; replace S := S.fr f9; clear f9)
              | ((with_reducible refine gate_dst (N := 4) rfl ?_); refine aAl S ?_; clear S; intro g9 w9 z9 S) | ((with_reducible refine gate_st rfl ?_); (first | refine aS1 S ?_ | refine aSt S ?_ | refine aSp S ?_); clear S; intro w9 S) | ((with_reducible refine gate_box rfl ?_); refine aBx S ?_; clear S; intro g9 w9 z9 S) | ((with_reducible refine gate_load rfl ?_); first | refine aLd S ?_ | refine aPt S ?_ | refine aL1 S ?_))
            go_roundw
            case rel => exact ⟨k + 1, by omega, by go_num, R.out, (Sep.only1 (a1 := aBox gS _ _ _) S delA)⟩
            case measure => simp [intOf]; omega
          | true =>
            have R := Lib.hid (sentOk_bad (s := s) (k := k) HIN.out (by rw [HAT.out]; simp [pkAtOk, O1.out, hq, hv]))
            clear hq hv
            go_wp2_with (first
              | ((with_reducible refine gate_dst (N := 34) rfl ?_); refine wpList_pkld (by rfl) 88 _ rfl rfl (g1.fr S.frame) _ Try.underlying88 rfl ts88 ?_)
              | ((with_reducible refine gate_dst (N := 57) rfl ?_); refine wpList_rowint (by rfl) 4 _ rfl rfl (S.frame.cell G2.out) _ Try.underlying4 rfl ?_)
              | ((with_reducible refine gate_dst (N := 63) rfl ?_); refine wpList_rowint (by rfl) 4 _ rfl rfl (S.frame.cell G3.out) _ Try.underlying4 rfl ?_)
              | (go_at_call 118; (with_reducible refine (PacketOk_l _ x).mono ?_); rintro e w9 ⟨rfl, f9⟩; rw [O1.out]; replace S := S.fr f9; clear f9)
              | ((with_reducible refine gate_dst (N := 4) rfl ?_); refine aAl S ?_; clear S; intro g9 w9 z9 S) | ((with_reducible refine gate_st rfl ?_); (first | refine aS1 S ?_ | refine aSt S ?_ | refine aSp S ?_); clear S; intro w9 S) | ((with_reducible refine gate_box rfl ?_); refine aBx S ?_; clear S; intro g9 w9 z9 S) | ((with_reducible refine gate_load rfl ?_); first | refine aLd S ?_ | refine aPt S ?_ | refine aL1 S ?_))
            go_ret
            exact ⟨by rw [R.out]; rfl, S.frame⟩
    · obtain rfl : k = n := by omega
      have R := Lib.hid (show sentOk s = true by simp [sentOk, E1.out, E2.out, E3.out, e1]; simpa using HA.out)
      go_wp2
      go_ret
      exact ⟨by rw [R.out]; rfl, S.frame⟩
end Go.Proofs.Ytapdcgjccckjeaa
