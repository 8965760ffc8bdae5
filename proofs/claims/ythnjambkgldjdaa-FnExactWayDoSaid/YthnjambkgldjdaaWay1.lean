/- What is still on the way: the reference's l3Live, the program's wayIdle; which steps may be taken. -/
import Derived.Test.YthnjambkgldjdaaStLive
namespace Go.Proofs.Ythnjambkgldjdaa
set_option linter.unusedVariables false
set_option linter.unusedSimpArgs false
open Go.RowKit
def liveN (s : St) : Nat := (liveTo s.live s.live.length).length
def idleV (s : St) : Bool := (liveN s : Int) == 0
def mayL (s o : St) (n : Int) : Bool :=
  if n = 1 then s.way == 0
  else if n = 2 then decide (s.way ≤ 1) && (o.way == 1 || o.way == 2)
  else if n = 3 then s.way == 1 && decide (2 ≤ o.way)
  else if n = 4 then s.way == 2 && decide (2 ≤ o.way)
  else if n = 5 then s.way == 3 && decide (s.vsn < 9)
  else if n = 6 then s.way == 3 && o.way == 4 && o.want == s.vsn + 1
  else if n = 7 then s.way == 4 && idleV s && ((o.way == 4 && o.want == s.want && idleV o) || o.vsn == s.want)
  else false
def mayV (s o : St) (n : Int) : Bool := okSt s && (okSt o && mayL s o n)
theorem liveTo_mem {bs : List Bool} {k n : Nat} (hk : k < bs.length) (hn : k < n) (h : bs[k] = true) : liveTo bs n ≠ [] := by
  intro h0
  have : ((k : Int) + 1) ∈ liveTo bs n := by
    unfold liveTo
    simp only [List.mem_map, List.mem_filter, List.mem_range]
    exact ⟨k, ⟨hn, by simp [hk, h]⟩, rfl⟩
  rw [h0] at this
  cases this
set_option maxHeartbeats 1600000 in
theorem l3Live_c (w : World) (s : St) (c0 : List Value) (h1 : tSt.rd w s c0) (h8 : s.live.length ≤ 8) : Calls Try.prog 83 #[.agg c0.toArray] w (Ret (.int .i64 (liveN s)) w) := by
  obtain ⟨v1, v2, v3, v4, rfl, h11, h12, h13, h14, h15⟩ := h1
  obtain ⟨A2, c2, rfl⟩ := h12.val
  have S := Sep.start w
  clear h11 h13 h14 h15
  have r := Lib.hid (show liveN s = (liveTo s.live s.live.length).length from rfl)
  obtain ⟨n, hn⟩ : ∃ n, s.live.length = n := ⟨_, rfl⟩
  have HN := Lib.hid hn
  rw [hn] at h8
  rw [hn]
  clear hn
  go_enter Try.func83, Try.ntmps83
  go_wp2_with (first
    | ((with_reducible refine gate_dst (N := 1) rfl ?_); refine aBx S ?_; clear S; intro gS w9 z9 S)
    | ((with_reducible refine gate_box rfl ?_); refine aBx S ?_; clear S; intro g9 w9 z9 S) | ((with_reducible refine gate_load rfl ?_); first | refine aLd S ?_ | refine aPt S ?_ | refine aL1 S ?_))
  go_loopw [4, 3] (fun i m wr => ∃ (k : Nat), k ≤ n ∧ i = .int .i64 k ∧ m = .int .i64 ((liveTo s.live k).length : Nat) ∧ Sep [] w [aBox gS 26 7 [.int .i64 s.way, .int .i64 s.vsn, .int .i64 s.want, v1, .slice A2 n c2, v3, v4]] wr) (fun i _ _ => n - (intOf i).toNat)
  case atStart => exact ⟨0, Nat.zero_le _, rfl, rfl, S⟩
  case round =>
    clear S
    obtain ⟨k, hk, rfl, rfl, S⟩ := hrel
    by_cases hlt : k < n
    · have hin : k < s.live.length := by rw [HN.out]; exact hlt
      obtain ⟨ad2, rfl, g2⟩ := row_bool_at h12 k hin
      have G2 := Lib.hid g2
      have HIN := Lib.hid hin
      have p1 : (k : Int) < n := by omega
      have k8 : k < 8 := by omega
      have LT := Lib.hid (liveTo_len s.live k)
      obtain ⟨m, hm⟩ : ∃ m, (liveTo s.live k).length = m := ⟨_, rfl⟩
      have HM := Lib.hid hm
      rw [hm] at LT
      rw [hm]
      have m8 : m ≤ k := LT.out
      have pw : IntKind.i64.wrap ((k : Int) + 1) = (k : Int) + 1 := IntWalk.i64_in _ (by omega)
      have pm : IntKind.i64.wrap ((m : Int) + 1) = (m : Int) + 1 := IntWalk.i64_in _ (by omega)
      clear g2 hm
      cases o1 : s.live[k]'HIN.out with
      | false =>
        have R := Lib.hid (show (liveTo s.live (k + 1)).length = m by rw [liveTo_no HIN.out o1, HM.out])
        rw [o1] at G2
        clear o1
        go_wp2_with (first
          | ((with_reducible refine gate_dst (N := 16) rfl ?_); refine wpList_rowint (by rfl) 4 _ rfl rfl (S.frame.cell G2.out) _ Try.underlying4 rfl ?_)
          | ((with_reducible refine gate_box rfl ?_); refine aBx S ?_; clear S; intro g9 w9 z9 S) | ((with_reducible refine gate_load rfl ?_); first | refine aLd S ?_ | refine aPt S ?_ | refine aL1 S ?_))
        go_roundw
        case rel => exact ⟨k + 1, by omega, by go_num, by rw [R.out], S⟩
        case measure => simp [intOf]; omega
      | true =>
        have R := Lib.hid (show (liveTo s.live (k + 1)).length = m + 1 by rw [liveTo_yes HIN.out o1, List.length_append, HM.out]; rfl)
        rw [o1] at G2
        clear o1
        go_wp2_with (first
          | ((with_reducible refine gate_dst (N := 16) rfl ?_); refine wpList_rowint (by rfl) 4 _ rfl rfl (S.frame.cell G2.out) _ Try.underlying4 rfl ?_)
          | ((with_reducible refine gate_box rfl ?_); refine aBx S ?_; clear S; intro g9 w9 z9 S) | ((with_reducible refine gate_load rfl ?_); first | refine aLd S ?_ | refine aPt S ?_ | refine aL1 S ?_))
        go_roundw
        case rel => exact ⟨k + 1, by omega, by go_num, by rw [R.out]; rfl, S⟩
        case measure => simp [intOf]; omega
    · obtain rfl : k = n := by omega
      go_wp2_with (first | ((with_reducible refine gate_box rfl ?_); refine aBx S ?_; clear S; intro g9 w9 z9 S) | ((with_reducible refine gate_load rfl ?_); first | refine aLd S ?_ | refine aPt S ?_ | refine aL1 S ?_))
      go_ret
      exact ⟨by rw [r.out, HN.out]; rfl, S.frame⟩
set_option maxHeartbeats 1600000 in
theorem wayIdle_c (w : World) (s : St) (c0 : List Value) (h1 : tSt.rd w s c0) (h8 : s.live.length ≤ 8) : Calls Try.prog 84 #[.agg c0.toArray] w (Ret (.bool (idleV s)) w) := by
  obtain ⟨v1, v2, v3, v4, rfl, h11, h12, h13, h14, h15⟩ := h1
  obtain ⟨A2, c2, rfl⟩ := h12.val
  have S := Sep.start w
  clear h11 h13 h14 h15
  have r := Lib.hid (show idleV s = (((liveTo s.live s.live.length).length : Int) == 0) from rfl)
  obtain ⟨n, hn⟩ : ∃ n, s.live.length = n := ⟨_, rfl⟩
  have HN := Lib.hid hn
  rw [hn] at h8
  rw [hn]
  clear hn
  go_enter Try.func84, Try.ntmps84
  go_wp2_with (first
    | ((with_reducible refine gate_dst (N := 1) rfl ?_); refine aBx S ?_; clear S; intro gS w9 z9 S)
    | ((with_reducible refine gate_box rfl ?_); refine aBx S ?_; clear S; intro g9 w9 z9 S) | ((with_reducible refine gate_load rfl ?_); first | refine aLd S ?_ | refine aPt S ?_ | refine aL1 S ?_))
  go_loopw [8] (fun i wr => ∃ (k : Nat), k ≤ n ∧ i = .int .i64 k ∧ liveTo s.live k = [] ∧ Sep [] w [aBox gS 26 7 [.int .i64 s.way, .int .i64 s.vsn, .int .i64 s.want, v1, .slice A2 n c2, v3, v4]] wr) (fun i _ => n - (intOf i).toNat)
  case atStart => exact ⟨0, Nat.zero_le _, rfl, rfl, S⟩
  case round =>
    clear S
    obtain ⟨k, hk, rfl, h0, S⟩ := hrel
    have H0 := Lib.hid h0
    clear h0
    by_cases hlt : k < n
    · have hin : k < s.live.length := by rw [HN.out]; exact hlt
      obtain ⟨ad2, rfl, g2⟩ := row_bool_at h12 k hin
      have G2 := Lib.hid g2
      have HIN := Lib.hid hin
      have p1 : (k : Int) < n := by omega
      have k8 : k < 8 := by omega
      have pw : IntKind.i64.wrap ((k : Int) + 1) = (k : Int) + 1 := IntWalk.i64_in _ (by omega)
      clear g2
      cases o1 : s.live[k]'HIN.out with
      | false =>
        have R := Lib.hid (show liveTo s.live (k + 1) = [] by rw [liveTo_no HIN.out o1, H0.out])
        rw [o1] at G2
        clear o1
        go_wp2_with (first
          | ((with_reducible refine gate_dst (N := 11) rfl ?_); refine wpList_rowint (by rfl) 4 _ rfl rfl (S.frame.cell G2.out) _ Try.underlying4 rfl ?_)
          | ((with_reducible refine gate_box rfl ?_); refine aBx S ?_; clear S; intro g9 w9 z9 S) | ((with_reducible refine gate_load rfl ?_); first | refine aLd S ?_ | refine aPt S ?_ | refine aL1 S ?_))
        go_roundw
        case rel => exact ⟨k + 1, by omega, by go_num, R.out, S⟩
        case measure => simp [intOf]; omega
      | true =>
        have R := Lib.hid (show idleV s = false by
          rw [r.out]
          have := liveTo_mem HIN.out HIN.out o1
          cases e : liveTo s.live s.live.length with
          | nil => exact absurd e this
          | cons a l => simp; omega)
        rw [o1] at G2
        clear o1
        go_wp2_with (first
          | ((with_reducible refine gate_dst (N := 11) rfl ?_); refine wpList_rowint (by rfl) 4 _ rfl rfl (S.frame.cell G2.out) _ Try.underlying4 rfl ?_)
          | ((with_reducible refine gate_box rfl ?_); refine aBx S ?_; clear S; intro g9 w9 z9 S) | ((with_reducible refine gate_load rfl ?_); first | refine aLd S ?_ | refine aPt S ?_ | refine aL1 S ?_))
        go_ret
        exact ⟨by rw [R.out]; rfl, S.frame⟩
    · obtain rfl : k = n := by omega
      go_wp2_with (first | ((with_reducible refine gate_box rfl ?_); refine aBx S ?_; clear S; intro g9 w9 z9 S) | ((with_reducible refine gate_load rfl ?_); first | refine aLd S ?_ | refine aPt S ?_ | refine aL1 S ?_))
      go_ret
      exact ⟨by rw [r.out, HN.out, H0.out]; rfl, S.frame⟩
end Go.Proofs.Ythnjambkgldjdaa
