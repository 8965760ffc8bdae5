/- The reference's WayMay and WayNext. -/
import Derived.Test.YthnjambkgldjdaaWay2
namespace Go.Proofs.Ythnjambkgldjdaa
set_option linter.unusedVariables false
set_option linter.unusedSimpArgs false
open Go.RowKit
def nextTo (s o : St) (k : Nat) : List Int := ((List.range k).filter (fun (j : Nat) => mayV s o ((j : Int) + 1))).map (fun (j : Nat) => (j : Int) + 1)
def nextV (s o : St) : List Int := nextTo s o 7
theorem nextTo_yes {s o : St} {k : Nat} (h : mayV s o ((k : Int) + 1) = true) : nextTo s o (k + 1) = nextTo s o k ++ [(k : Int) + 1] := by
  unfold nextTo
  rw [List.range_succ, List.filter_append, List.map_append]
  simp [h]
theorem nextTo_no {s o : St} {k : Nat} (h : mayV s o ((k : Int) + 1) = false) : nextTo s o (k + 1) = nextTo s o k := by
  unfold nextTo
  rw [List.range_succ, List.filter_append, List.map_append]
  simp [h]
theorem nextTo_len (s o : St) (k : Nat) : (nextTo s o k).length ≤ k := by
  unfold nextTo
  rw [List.length_map]
  exact Nat.le_trans (List.length_filter_le _ _) (by simp)
set_option maxHeartbeats 3200000 in
theorem sWayMay_c (w : World) (s o : St) (c0 c1 : List Value) (h1 : tSt.rd w s c0) (h2 : tSt.rd w o c1) (n : Int) : Calls Try.prog 55 #[.agg c0.toArray, .agg c1.toArray, .int .i64 n] w (Ret (.bool (mayV s o n)) w) := by
  have Q := Lib.hid h1
  have Q2 := Lib.hid h2
  obtain ⟨v1, v2, v3, v4, rfl, _⟩ := h1
  obtain ⟨u1, u2, u3, u4, rfl, _⟩ := h2
  have FIN := Lib.hid (fun (W : World) (f : Fr w W) => tSt.fr f Q.out)
  have FIO := Lib.hid (fun (W : World) (f : Fr w W) => tSt.fr f Q2.out)
  have S := Sep.start w
  cases o1 : okSt s with
  | false =>
    have R := Lib.hid (show mayV s o n = false by unfold mayV; rw [o1]; rfl)
    have O1 := Lib.hid o1
    clear o1
    go_enter Try.func55, Try.ntmps55
    go_wp2_with (first
      | (go_at_call 17; (with_reducible refine (sStateOk_r _ s _ (FIN.out _ S.frame) O1.out).mono ?_); rintro e w9 ⟨rfl, f9⟩; replace S := S.fr f9; clear f9)
      | ((with_reducible refine gate_box rfl ?_); refine aBx S ?_; clear S; intro g9 w9 z9 S) | ((with_reducible refine gate_load rfl ?_); first | refine aLd S ?_ | refine aPt S ?_ | refine aL1 S ?_))
    go_ret
    exact ⟨by rw [R.out]; rfl, S.frame⟩
  | true =>
  cases o2 : okSt o with
  | false =>
    have R := Lib.hid (show mayV s o n = false by unfold mayV; rw [o2]; simp)
    have O1 := Lib.hid o1
    have O2 := Lib.hid o2
    clear o1 o2
    go_enter Try.func55, Try.ntmps55
    go_wp2_with (first
      | ((with_reducible refine gate_dst (N := 3) rfl ?_); refine aBx S ?_; clear S; intro gS w9 z9 S)
      | ((with_reducible refine gate_dst (N := 4) rfl ?_); refine aBx S ?_; clear S; intro gO w9 z9 S)
      | (go_at_call 17; (with_reducible refine (sStateOk_r _ s _ (FIN.out _ S.frame) O1.out).mono ?_); rintro e w9 ⟨rfl, f9⟩; replace S := S.fr f9; clear f9)
      | (go_at_call 17; (with_reducible refine (sStateOk_r _ o _ (FIO.out _ S.frame) O2.out).mono ?_); rintro e w9 ⟨rfl, f9⟩; replace S := S.fr f9; clear f9)
      | ((with_reducible refine gate_box rfl ?_); refine aBx S ?_; clear S; intro g9 w9 z9 S) | ((with_reducible refine gate_load rfl ?_); first | refine aLd S ?_ | refine aPt S ?_ | refine aL1 S ?_))
    go_ret
    exact ⟨by rw [R.out]; rfl, S.frame⟩
  | true =>
    have R := Lib.hid (show mayV s o n = mayL s o n by unfold mayV; rw [o1, o2]; rfl)
    have O1 := Lib.hid o1
    have O2 := Lib.hid o2
    clear o1 o2
    go_enter Try.func55, Try.ntmps55
    go_wp2_with (first
      | ((with_reducible refine gate_dst (N := 3) rfl ?_); refine aBx S ?_; clear S; intro gS w9 z9 S)
      | ((with_reducible refine gate_dst (N := 4) rfl ?_); refine aBx S ?_; clear S; intro gO w9 z9 S)
      | (go_at_call 17; (with_reducible refine (sStateOk_r _ s _ (FIN.out _ S.frame) O1.out).mono ?_); rintro e w9 ⟨rfl, f9⟩; replace S := S.fr f9; clear f9)
      | (go_at_call 17; (with_reducible refine (sStateOk_r _ o _ (FIO.out _ S.frame) O2.out).mono ?_); rintro e w9 ⟨rfl, f9⟩; replace S := S.fr f9; clear f9)
      | (go_at_call 65; (with_reducible refine (l11May_c _ s o _ _ (FIN.out _ S.frame) (FIO.out _ S.frame) O1.out O2.out n).mono ?_); rintro e w9 ⟨rfl, f9⟩; replace S := S.fr f9; clear f9)
      | ((with_reducible refine gate_box rfl ?_); refine aBx S ?_; clear S; intro g9 w9 z9 S) | ((with_reducible refine gate_load rfl ?_); first | refine aLd S ?_ | refine aPt S ?_ | refine aL1 S ?_))
    go_ret
    exact ⟨by rw [R.out]; rfl, S.frame⟩
theorem sWayMay_r (w : World) (s o : St) (c0 c1 : List Value) (h1 : tSt.rd w s c0) (h2 : tSt.rd w o c1) (n : Int) {r : Bool} (h : mayV s o n = r) : Calls Try.prog 55 #[.agg c0.toArray, .agg c1.toArray, .int .i64 n] w (Ret (.bool r) w) := h ▸ sWayMay_c w s o c0 c1 h1 h2 n
set_option maxHeartbeats 3200000 in
theorem sWayNext_c (w : World) (s o : St) (c0 c1 : List Value) (h1 : tSt.rd w s c0) (h2 : tSt.rd w o c1) : Calls Try.prog 32 #[.agg c0.toArray, .agg c1.toArray] w (RetRow tInt 3 (nextV s o) w) := by
  have Q := Lib.hid h1
  have Q2 := Lib.hid h2
  obtain ⟨v1, v2, v3, v4, rfl, _⟩ := h1
  obtain ⟨u1, u2, u3, u4, rfl, _⟩ := h2
  have FIN := Lib.hid (fun (W : World) (f : Fr w W) => tSt.fr f Q.out)
  have FIO := Lib.hid (fun (W : World) (f : Fr w W) => tSt.fr f Q2.out)
  have S := Sep.start w
  obtain ⟨i0, hi, hz0, hz1, hz2⟩ := info_parts linfo3
  have HI := Lib.hid hi
  have HZ := Lib.hid (And.intro hz0 (And.intro hz1 hz2))
  clear hi hz0 hz1 hz2
  go_enter Try.func32, Try.ntmps32
  go_wp2_with (first
    | ((with_reducible refine gate_dst (N := 2) rfl ?_); refine aBx S ?_; clear S; intro gS w9 z9 S)
    | ((with_reducible refine gate_dst (N := 3) rfl ?_); refine aBx S ?_; clear S; intro gO w9 z9 S)
    | ((with_reducible refine gate_dst (N := 7) rfl ?_); refine wpList_sints S (by rfl) 3 [] 0 rfl (by decide) (by first | (go_simp; done) | (go_simp; rfl)) ?_; clear S; intro g7 w9 z9 S)
    | ((with_reducible refine gate_box rfl ?_); refine aBx S ?_; clear S; intro g9 w9 z9 S) | ((with_reducible refine gate_load rfl ?_); first | refine aLd S ?_ | refine aPt S ?_ | refine aL1 S ?_))
  go_loopw [6, 5] (fun i out wr => ∃ (k : Nat) (F : List Nat), k ≤ 7 ∧ i = .int .i64 ((k : Int) + 1) ∧ Sep [] w [aRow tInt 3 (nextTo s o k) out F, aBox gS 26 7 [.int .i64 s.way, .int .i64 s.vsn, .int .i64 s.want, v1, v2, v3, v4], aBox gO 26 7 [.int .i64 o.way, .int .i64 o.vsn, .int .i64 o.want, u1, u2, u3, u4]] wr) (fun i _ _ => 9 - (intOf i).toNat)
  case atStart => exact ⟨0, _, Nat.zero_le _, rfl, (Sep.only3 (a1 := aRow tInt _ [] _ _) (a2 := aBox gS _ _ _) (a3 := aBox gO _ _ _) S delA delA delA)⟩
  case round =>
    clear S
    obtain ⟨k, F, hk, rfl, S⟩ := hrel
    by_cases hlt : k < 7
    · have p1 : decide ((k : Int) + 1 ≤ 7) = true := decide_eq_true (by omega)
      have pw : IntKind.i64.wrap ((k : Int) + 1 + 1) = (k : Int) + 1 + 1 := IntWalk.i64_in _ (by omega)
      have pw2 : IntKind.i64.wrap ((k : Int) + 2) = (k : Int) + 2 := IntWalk.i64_in _ (by omega)
      cases o1 : mayV s o ((k : Int) + 1) with
      | false =>
        have R := Lib.hid (nextTo_no o1)
        have O1 := Lib.hid o1
        clear o1
        go_wp2_with (first
          | (go_at_call 55; (with_reducible refine (sWayMay_r _ s o _ _ (FIN.out _ S.frame) (FIO.out _ S.frame) ((k : Int) + 1) O1.out).mono ?_); rintro e w9 ⟨rfl, f9⟩; replace S := S.fr f9; clear f9)
          | ((with_reducible refine gate_box rfl ?_); refine aBx S ?_; clear S; intro g9 w9 z9 S) | ((with_reducible refine gate_load rfl ?_); first | refine aLd S ?_ | refine aPt S ?_ | refine aL1 S ?_))
        go_roundw
        case rel => exact ⟨k + 1, F, by omega, by go_num, by rw [R.out]; exact S⟩
        case measure => simp [intOf]; omega
      | true =>
        have R := Lib.hid (nextTo_yes o1)
        have LT := Lib.hid (nextTo_len s o k)
        have O1 := Lib.hid o1
        clear o1
        go_wp2_with (first
          | (go_at_call 55; (with_reducible refine (sWayMay_r _ s o _ _ (FIN.out _ S.frame) (FIO.out _ S.frame) ((k : Int) + 1) O1.out).mono ?_); rintro e w9 ⟨rfl, f9⟩; replace S := S.fr f9; clear f9)
          | ((with_reducible refine gate_dst (N := 18) rfl ?_); refine wpList_sints S (by rfl) 3 [(k : Int) + 1] 1 rfl (by decide) (by first | (go_simp; done) | (go_simp; rfl)) ?_; clear S; intro g21 w9 z9 S)
          | ((with_reducible refine gate_dst (N := 19) rfl ?_); refine wpList_sappd S rfl _ _ _ rfl 3 i0 Try.underlying24 HI.out HZ.out.1 HZ.out.2.1 HZ.out.2.2 (xs := nextTo s o k) (v := u5) (F := F) delA rfl ⟨g21, 0, none⟩ 1 1 [(k : Int) + 1] rfl rfl (S.row (d := tInt) (xs := [(k : Int) + 1]) memA).row (by decide) (by have := LT.out; omega) ?_; clear S; intro v9 F9 w9 S)
          | ((with_reducible refine gate_box rfl ?_); refine aBx S ?_; clear S; intro g9 w9 z9 S) | ((with_reducible refine gate_load rfl ?_); first | refine aLd S ?_ | refine aPt S ?_ | refine aL1 S ?_))
        go_roundw
        case rel => exact ⟨k + 1, _, by omega, by go_num, by rw [R.out]; exact (Sep.only3 (a1 := aRow tInt _ (nextTo s o k ++ [(k : Int) + 1]) _ _) (a2 := aBox gS _ _ _) (a3 := aBox gO _ _ _) S delA delA delA)⟩
        case measure => simp [intOf]; omega
    · obtain rfl : k = 7 := by omega
      go_wp2_with (first | ((with_reducible refine gate_box rfl ?_); refine aBx S ?_; clear S; intro g9 w9 z9 S) | ((with_reducible refine gate_load rfl ?_); first | refine aLd S ?_ | refine aPt S ?_ | refine aL1 S ?_))
      go_ret
      exact S.retRow List.mem_cons_self
end Go.Proofs.Ythnjambkgldjdaa
