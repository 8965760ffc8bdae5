/- The program's and the reference's StateLive. -/
import Derived.Test.YthnjambkgldjdaaStSet
import Derived.Test.YthnjambkgldjdaaSepApp
namespace Go.Proofs.Ythnjambkgldjdaa
set_option linter.unusedVariables false
set_option linter.unusedSimpArgs false
open Go.RowKit
theorem linfo3 : (Try.prog.info? 3).map (fun i => (i.zero, i.size, i.bytes)) = some (some (.int .i64 0), 1, 8) := by kernel_rfl
def liveTo (bs : List Bool) (k : Nat) : List Int := ((List.range k).filter (fun (j : Nat) => bs.getD j false)).map (fun (j : Nat) => (j : Int) + 1)
def liveV (s : St) : List Int := if okSt s = true then liveTo s.live s.live.length else []
theorem liveTo_yes {bs : List Bool} {k : Nat} (hk : k < bs.length) (h : bs[k] = true) : liveTo bs (k + 1) = liveTo bs k ++ [(k : Int) + 1] := by
  unfold liveTo
  rw [List.range_succ, List.filter_append, List.map_append]
  simp [hk, h]
theorem liveTo_no {bs : List Bool} {k : Nat} (hk : k < bs.length) (h : bs[k] = false) : liveTo bs (k + 1) = liveTo bs k := by
  unfold liveTo
  rw [List.range_succ, List.filter_append, List.map_append]
  simp [hk, h]
theorem liveTo_len (bs : List Bool) (k : Nat) : (liveTo bs k).length ≤ k := by
  unfold liveTo
  rw [List.length_map]
  exact Nat.le_trans (List.length_filter_le _ _) (by simp)
set_option maxHeartbeats 3200000 in
theorem StateLive_c (w : World) (s : St) (c0 : List Value) (h1 : tSt.rd w s c0) : Calls Try.prog 28 #[.agg c0.toArray] w (RetRow tInt 3 (liveV s) w) := by
  have Q := Lib.hid h1
  obtain ⟨v1, v2, v3, v4, rfl, h11, h12, h13, h14, h15⟩ := h1
  obtain ⟨A2, c2, rfl⟩ := h12.val
  have FIN := Lib.hid (fun (W : World) (f : Fr w W) => tSt.fr f Q.out)
  have S := Sep.start w
  clear h11 h13 h14 h15
  cases o1 : okSt s with
  | false =>
    have r := Lib.hid (show liveV s = [] by unfold liveV; rw [o1]; rfl)
    have O1 := Lib.hid o1
    clear o1
    go_enter Try.func28, Try.ntmps28
    go_wp2_with (first
      | (go_at_call 19; (with_reducible refine (StateOk_r _ s _ (FIN.out _ S.frame) O1.out).mono ?_); rintro e w9 ⟨rfl, f9⟩; replace S := S.fr f9; clear f9)
      | ((with_reducible refine gate_box rfl ?_); refine aBx S ?_; clear S; intro g9 w9 z9 S) | ((with_reducible refine gate_load rfl ?_); first | refine aLd S ?_ | refine aPt S ?_ | refine aL1 S ?_))
    go_ret
    rw [r.out]
    exact (S.addNil tInt 3).retRow List.mem_cons_self
  | true =>
    have LN := Lib.hid (okSt_len o1)
    have r := Lib.hid (show liveV s = liveTo s.live s.live.length by unfold liveV; rw [if_pos o1])
    obtain ⟨i0, hi, hz0, hz1, hz2⟩ := info_parts linfo3
    have HI := Lib.hid hi
    have HZ := Lib.hid (And.intro hz0 (And.intro hz1 hz2))
    clear hi hz0 hz1 hz2
    have O1 := Lib.hid o1
    clear o1
    have M8 := Lib.hid (show s.live.length ≤ 8 by have := LN.out; omega)
    obtain ⟨n, hn⟩ : ∃ n, s.live.length = n := ⟨_, rfl⟩
    have HN := Lib.hid hn
    have FN := Lib.hid (fun (W : World) (f : Fr w W) => FIN.out W f)
    rw [hn] at FN
    rw [hn]
    clear hn
    go_enter Try.func28, Try.ntmps28
    go_wp2_with (first
      | ((with_reducible refine gate_dst (N := 1) rfl ?_); refine aBx S ?_; clear S; intro gS w9 z9 S)
      | (go_at_call 19; (with_reducible refine (StateOk_r _ s _ (FN.out _ S.frame) O1.out).mono ?_); rintro e w9 ⟨rfl, f9⟩; replace S := S.fr f9; clear f9)
      | ((with_reducible refine gate_box rfl ?_); refine aBx S ?_; clear S; intro g9 w9 z9 S) | ((with_reducible refine gate_load rfl ?_); first | refine aLd S ?_ | refine aPt S ?_ | refine aL1 S ?_))
    go_loopw [12, 3] (fun i out wr => ∃ (k : Nat) (F : List Nat), k ≤ n ∧ i = .int .i64 k ∧ Sep [] w [aRow tInt 3 (liveTo s.live k) out F, aBox gS 26 7 [.int .i64 s.way, .int .i64 s.vsn, .int .i64 s.want, v1, .slice A2 n c2, v3, v4]] wr) (fun i _ _ => n - (intOf i).toNat)
    case atStart => exact ⟨0, [], Nat.zero_le _, rfl, S.addNil tInt 3⟩
    case round =>
      clear S
      obtain ⟨k, F, hk, rfl, S⟩ := hrel
      by_cases hlt : k < n
      · have hin : k < s.live.length := by rw [HN.out]; exact hlt
        obtain ⟨ad2, rfl, g2⟩ := row_bool_at h12 k hin
        have G2 := Lib.hid g2
        have HIN := Lib.hid hin
        have p1 : (k : Int) < n := by omega
        have k8 : k < 8 := by have := M8.out; omega
        have pw : IntKind.i64.wrap ((k : Int) + 1) = (k : Int) + 1 := IntWalk.i64_in _ (by omega)
        clear g2
        cases o1 : s.live[k]'HIN.out with
        | false =>
          have R := Lib.hid (liveTo_no HIN.out o1)
          rw [o1] at G2
          clear o1
          go_wp2_with (first
            | ((with_reducible refine gate_dst (N := 16) rfl ?_); refine wpList_rowint (by rfl) 4 _ rfl rfl (S.frame.cell G2.out) _ Try.underlying4 rfl ?_)
            | ((with_reducible refine gate_box rfl ?_); refine aBx S ?_; clear S; intro g9 w9 z9 S) | ((with_reducible refine gate_load rfl ?_); first | refine aLd S ?_ | refine aPt S ?_ | refine aL1 S ?_))
          go_roundw
          case rel => exact ⟨k + 1, F, by omega, by go_num, by rw [R.out]; exact S⟩
          case measure => simp [intOf]; omega
        | true =>
          have R := Lib.hid (liveTo_yes HIN.out o1)
          rw [o1] at G2
          have LT := Lib.hid (liveTo_len s.live k)
          clear o1
          go_wp2_with (first
            | ((with_reducible refine gate_dst (N := 16) rfl ?_); refine wpList_rowint (by rfl) 4 _ rfl rfl (S.frame.cell G2.out) _ Try.underlying4 rfl ?_)
            | ((with_reducible refine gate_dst (N := 21) rfl ?_); refine wpList_sints S (by rfl) 3 [(k : Int) + 1] 1 rfl (by decide) (by first | (go_simp; done) | (go_simp; rfl)) ?_; clear S; intro g21 w9 z9 S)
            | ((with_reducible refine gate_dst (N := 22) rfl ?_); refine wpList_sappd S rfl _ _ _ rfl 3 i0 Try.underlying24 HI.out HZ.out.1 HZ.out.2.1 HZ.out.2.2 (xs := liveTo s.live k) (v := u3) (F := F) delA rfl ⟨g21, 0, none⟩ 1 1 [(k : Int) + 1] rfl rfl (S.row (d := tInt) (xs := [(k : Int) + 1]) memA).row (by decide) (by have := LT.out; omega) ?_; clear S; intro v9 F9 w9 S)
            | ((with_reducible refine gate_box rfl ?_); refine aBx S ?_; clear S; intro g9 w9 z9 S) | ((with_reducible refine gate_load rfl ?_); first | refine aLd S ?_ | refine aPt S ?_ | refine aL1 S ?_))
          go_roundw
          case rel => exact ⟨k + 1, _, by omega, by go_num, by rw [R.out]; exact (Sep.only2 (a1 := aRow tInt _ (liveTo s.live k ++ [(k : Int) + 1]) _ _) (a2 := aBox gS _ _ _) S delA delA)⟩
          case measure => simp [intOf]; omega
      · obtain rfl : k = n := by omega
        go_wp2
        go_ret
        rw [r.out, HN.out]
        exact S.retRow List.mem_cons_self
set_option maxHeartbeats 3200000 in
theorem sStateLive_c (w : World) (s : St) (c0 : List Value) (h1 : tSt.rd w s c0) : Calls Try.prog 27 #[.agg c0.toArray] w (RetRow tInt 3 (liveV s) w) := by
  have Q := Lib.hid h1
  obtain ⟨v1, v2, v3, v4, rfl, h11, h12, h13, h14, h15⟩ := h1
  obtain ⟨A2, c2, rfl⟩ := h12.val
  have FIN := Lib.hid (fun (W : World) (f : Fr w W) => tSt.fr f Q.out)
  have S := Sep.start w
  clear h11 h13 h14 h15
  cases o1 : okSt s with
  | false =>
    have r := Lib.hid (show liveV s = [] by unfold liveV; rw [o1]; rfl)
    have O1 := Lib.hid o1
    clear o1
    go_enter Try.func27, Try.ntmps27
    go_wp2_with (first
      | ((with_reducible refine gate_dst (N := 1) rfl ?_); refine aBx S ?_; clear S; intro gS w9 z9 S)
      | ((with_reducible refine gate_dst (N := 5) rfl ?_); refine wpList_sints S (by rfl) 3 [] 0 rfl (by decide) (by first | (go_simp; done) | (go_simp; rfl)) ?_; clear S; intro g5 w9 z9 S)
      | (go_at_call 17; (with_reducible refine (sStateOk_r _ s _ (FIN.out _ S.frame) O1.out).mono ?_); rintro e w9 ⟨rfl, f9⟩; replace S := S.fr f9; clear f9)
      | ((with_reducible refine gate_box rfl ?_); refine aBx S ?_; clear S; intro g9 w9 z9 S) | ((with_reducible refine gate_load rfl ?_); first | refine aLd S ?_ | refine aPt S ?_ | refine aL1 S ?_))
    go_ret
    rw [r.out]
    exact S.retRow (v := .slice (some ⟨g5, 0, none⟩) 0 0) (F := [g5]) memA
  | true =>
    have LN := Lib.hid (okSt_len o1)
    have r := Lib.hid (show liveV s = liveTo s.live s.live.length by unfold liveV; rw [if_pos o1])
    obtain ⟨i0, hi, hz0, hz1, hz2⟩ := info_parts linfo3
    have HI := Lib.hid hi
    have HZ := Lib.hid (And.intro hz0 (And.intro hz1 hz2))
    clear hi hz0 hz1 hz2
    have O1 := Lib.hid o1
    clear o1
    have M8 := Lib.hid (show s.live.length ≤ 8 by have := LN.out; omega)
    obtain ⟨n, hn⟩ : ∃ n, s.live.length = n := ⟨_, rfl⟩
    have HN := Lib.hid hn
    have FN := Lib.hid (fun (W : World) (f : Fr w W) => FIN.out W f)
    rw [hn] at FN
    rw [hn]
    clear hn
    go_enter Try.func27, Try.ntmps27
    go_wp2_with (first
      | ((with_reducible refine gate_dst (N := 1) rfl ?_); refine aBx S ?_; clear S; intro gS w9 z9 S)
      | ((with_reducible refine gate_dst (N := 5) rfl ?_); refine wpList_sints S (by rfl) 3 [] 0 rfl (by decide) (by first | (go_simp; done) | (go_simp; rfl)) ?_; clear S; intro g5 w9 z9 S)
      | (go_at_call 17; (with_reducible refine (sStateOk_r _ s _ (FN.out _ S.frame) O1.out).mono ?_); rintro e w9 ⟨rfl, f9⟩; replace S := S.fr f9; clear f9)
      | ((with_reducible refine gate_box rfl ?_); refine aBx S ?_; clear S; intro g9 w9 z9 S) | ((with_reducible refine gate_load rfl ?_); first | refine aLd S ?_ | refine aPt S ?_ | refine aL1 S ?_))
    go_loopw [4, 3] (fun i out wr => ∃ (k : Nat) (F : List Nat), k ≤ n ∧ i = .int .i64 k ∧ Sep [] w [aRow tInt 3 (liveTo s.live k) out F, aBox gS 26 7 [.int .i64 s.way, .int .i64 s.vsn, .int .i64 s.want, v1, .slice A2 n c2, v3, v4]] wr) (fun i _ _ => n - (intOf i).toNat)
    case atStart => exact ⟨0, _, Nat.zero_le _, rfl, (Sep.only2 (a1 := aRow tInt _ [] _ _) (a2 := aBox gS _ _ _) S delA delA)⟩
    case round =>
      clear S
      obtain ⟨k, F, hk, rfl, S⟩ := hrel
      by_cases hlt : k < n
      · have hin : k < s.live.length := by rw [HN.out]; exact hlt
        obtain ⟨ad2, rfl, g2⟩ := row_bool_at h12 k hin
        have G2 := Lib.hid g2
        have HIN := Lib.hid hin
        have p1 : (k : Int) < n := by omega
        have k8 : k < 8 := by have := M8.out; omega
        have pw : IntKind.i64.wrap ((k : Int) + 1) = (k : Int) + 1 := IntWalk.i64_in _ (by omega)
        clear g2
        cases o1 : s.live[k]'HIN.out with
        | false =>
          have R := Lib.hid (liveTo_no HIN.out o1)
          rw [o1] at G2
          clear o1
          go_wp2_with (first
            | ((with_reducible refine gate_dst (N := 21) rfl ?_); refine wpList_rowint (by rfl) 4 _ rfl rfl (S.frame.cell G2.out) _ Try.underlying4 rfl ?_)
            | ((with_reducible refine gate_box rfl ?_); refine aBx S ?_; clear S; intro g9 w9 z9 S) | ((with_reducible refine gate_load rfl ?_); first | refine aLd S ?_ | refine aPt S ?_ | refine aL1 S ?_))
          go_roundw
          case rel => exact ⟨k + 1, F, by omega, by go_num, by rw [R.out]; exact S⟩
          case measure => simp [intOf]; omega
        | true =>
          have R := Lib.hid (liveTo_yes HIN.out o1)
          rw [o1] at G2
          have LT := Lib.hid (liveTo_len s.live k)
          clear o1
          go_wp2_with (first
            | ((with_reducible refine gate_dst (N := 21) rfl ?_); refine wpList_rowint (by rfl) 4 _ rfl rfl (S.frame.cell G2.out) _ Try.underlying4 rfl ?_)
            | ((with_reducible refine gate_dst (N := 25) rfl ?_); refine wpList_sints S (by rfl) 3 [(k : Int) + 1] 1 rfl (by decide) (by first | (go_simp; done) | (go_simp; rfl)) ?_; clear S; intro g21 w9 z9 S)
            | ((with_reducible refine gate_dst (N := 26) rfl ?_); refine wpList_sappd S rfl _ _ _ rfl 3 i0 Try.underlying24 HI.out HZ.out.1 HZ.out.2.1 HZ.out.2.2 (xs := liveTo s.live k) (v := u3) (F := F) delA rfl ⟨g21, 0, none⟩ 1 1 [(k : Int) + 1] rfl rfl (S.row (d := tInt) (xs := [(k : Int) + 1]) memA).row (by decide) (by have := LT.out; omega) ?_; clear S; intro v9 F9 w9 S)
            | ((with_reducible refine gate_box rfl ?_); refine aBx S ?_; clear S; intro g9 w9 z9 S) | ((with_reducible refine gate_load rfl ?_); first | refine aLd S ?_ | refine aPt S ?_ | refine aL1 S ?_))
          go_roundw
          case rel => exact ⟨k + 1, _, by omega, by go_num, by rw [R.out]; exact (Sep.only2 (a1 := aRow tInt _ (liveTo s.live k ++ [(k : Int) + 1]) _ _) (a2 := aBox gS _ _ _) S delA delA)⟩
          case measure => simp [intOf]; omega
      · obtain rfl : k = n := by omega
        go_wp2_with (first | ((with_reducible refine gate_box rfl ?_); refine aBx S ?_; clear S; intro g9 w9 z9 S) | ((with_reducible refine gate_load rfl ?_); first | refine aLd S ?_ | refine aPt S ?_ | refine aL1 S ?_))
        go_ret
        rw [r.out, HN.out]
        exact S.retRow List.mem_cons_self
end Go.Proofs.Ythnjambkgldjdaa
