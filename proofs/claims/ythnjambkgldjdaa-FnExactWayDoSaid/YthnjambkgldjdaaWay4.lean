/- The program's steps of the way, and its WayNext. -/
import Derived.Test.YthnjambkgldjdaaWay3
namespace Go.Proofs.Ythnjambkgldjdaa
set_option linter.unusedVariables false
set_option linter.unusedSimpArgs false
open Go.RowKit
section
variable {P : Program} {ops : Array Oper} {rest : List Oper} {o : Oper} {a : Act} {Q : Exit → Act → World → Prop} {W w0 : World} {F0 : List Nat} {L L' : List Asrt}
theorem wpList_sbuilt (S : Sep F0 w0 L W) (hw : Region.wanted o (yielded ops a.tmps) = true) (e n m : Nat) (cs : List Value) (hn : cs.length = m) (hr : (execOp a.eval o).run P W = .ok (.value (.slice (some ⟨W.heap.size, 0, none⟩) n n)) (W.alloc (.cells cs.toArray e)))
    (h : ∀ g w1, W.heap.size ≤ g → Sep F0 w0 (aBox g e m cs :: L) w1 → wpList P ops Q rest (a.put o.dst (.slice (some ⟨g, 0, none⟩) n n)) w1) : wpList P ops Q (o :: rest) a W :=
  wpList_of_run hw hr (h _ _ (Nat.le_refl _) (S.new (aBox W.heap.size e m cs) ⟨⟨heap_alloc_new W _⟩, hn⟩ (by simp [aBox]) (fun q hq => by rw [List.mem_singleton.1 hq]; exact Nat.le_refl _) ((Fr.refl W).alloc _)))
end
theorem way1_r (w : World) (s o : St) (c0 c1 : List Value) (h1 : tSt.rd w s c0) (h2 : tSt.rd w o c1) (ok1 : okSt s = true) (ok2 : okSt o = true) {r : Bool} (h : mayL s o 1 = r) : Calls Try.prog 66 #[.agg c0.toArray, .agg c1.toArray] w (Ret (.bool r) w) := h ▸ way1_c w s o c0 c1 h1 h2 ok1 ok2
theorem way2_r (w : World) (s o : St) (c0 c1 : List Value) (h1 : tSt.rd w s c0) (h2 : tSt.rd w o c1) (ok1 : okSt s = true) (ok2 : okSt o = true) {r : Bool} (h : mayL s o 2 = r) : Calls Try.prog 68 #[.agg c0.toArray, .agg c1.toArray] w (Ret (.bool r) w) := h ▸ way2_c w s o c0 c1 h1 h2 ok1 ok2
theorem way3_r (w : World) (s o : St) (c0 c1 : List Value) (h1 : tSt.rd w s c0) (h2 : tSt.rd w o c1) (ok1 : okSt s = true) (ok2 : okSt o = true) {r : Bool} (h : mayL s o 3 = r) : Calls Try.prog 70 #[.agg c0.toArray, .agg c1.toArray] w (Ret (.bool r) w) := h ▸ way3_c w s o c0 c1 h1 h2 ok1 ok2
theorem way4_r (w : World) (s o : St) (c0 c1 : List Value) (h1 : tSt.rd w s c0) (h2 : tSt.rd w o c1) (ok1 : okSt s = true) (ok2 : okSt o = true) {r : Bool} (h : mayL s o 4 = r) : Calls Try.prog 72 #[.agg c0.toArray, .agg c1.toArray] w (Ret (.bool r) w) := h ▸ way4_c w s o c0 c1 h1 h2 ok1 ok2
theorem way5_r (w : World) (s o : St) (c0 c1 : List Value) (h1 : tSt.rd w s c0) (h2 : tSt.rd w o c1) (ok1 : okSt s = true) (ok2 : okSt o = true) {r : Bool} (h : mayL s o 5 = r) : Calls Try.prog 74 #[.agg c0.toArray, .agg c1.toArray] w (Ret (.bool r) w) := h ▸ way5_c w s o c0 c1 h1 h2 ok1 ok2
theorem way6_r (w : World) (s o : St) (c0 c1 : List Value) (h1 : tSt.rd w s c0) (h2 : tSt.rd w o c1) (ok1 : okSt s = true) (ok2 : okSt o = true) {r : Bool} (h : mayL s o 6 = r) : Calls Try.prog 76 #[.agg c0.toArray, .agg c1.toArray] w (Ret (.bool r) w) := h ▸ way6_c w s o c0 c1 h1 h2 ok1 ok2
theorem way7_r (w : World) (s o : St) (c0 c1 : List Value) (h1 : tSt.rd w s c0) (h2 : tSt.rd w o c1) (ok1 : okSt s = true) (ok2 : okSt o = true) {r : Bool} (h : mayL s o 7 = r) : Calls Try.prog 77 #[.agg c0.toArray, .agg c1.toArray] w (Ret (.bool r) w) := h ▸ way7_c w s o c0 c1 h1 h2 ok1 ok2
set_option maxHeartbeats 1600000 in
theorem waySteps_c (w : World) : Calls Try.prog 56 #[] w fun e w' => ∃ g, e = .returned (.slice (some ⟨g, 0, none⟩) 7 7) ∧ w.heap.size ≤ g ∧ Box w' g 72 #[.int .i64 1, .func (.func 66) #[] #[], .func (.func 67) #[] #[], .int .i64 2, .func (.func 68) #[] #[], .func (.func 69) #[] #[], .int .i64 3, .func (.func 70) #[] #[], .func (.func 71) #[] #[], .int .i64 4, .func (.func 72) #[] #[], .func (.func 73) #[] #[], .int .i64 5, .func (.func 74) #[] #[], .func (.func 75) #[] #[], .int .i64 6, .func (.func 76) #[] #[], .func (.func 75) #[] #[], .int .i64 7, .func (.func 77) #[] #[], .func (.func 78) #[] #[]] ∧ Fr w w' := by
  have S := Sep.start w
  go_enter Try.func56, Try.ntmps56
  go_wp2_with (first
    | ((with_reducible refine gate_dst (N := 8) rfl ?_); refine wpList_sbuilt S (by rfl) 72 7 21 [.int .i64 1, .func (.func 66) #[] #[], .func (.func 67) #[] #[], .int .i64 2, .func (.func 68) #[] #[], .func (.func 69) #[] #[], .int .i64 3, .func (.func 70) #[] #[], .func (.func 71) #[] #[], .int .i64 4, .func (.func 72) #[] #[], .func (.func 73) #[] #[], .int .i64 5, .func (.func 74) #[] #[], .func (.func 75) #[] #[], .int .i64 6, .func (.func 76) #[] #[], .func (.func 75) #[] #[], .int .i64 7, .func (.func 77) #[] #[], .func (.func 78) #[] #[]] rfl (by first | (go_simp; done) | (go_simp; rfl)) ?_; clear S; intro g8 w9 z9 S))
  go_ret
  exact ⟨g8, rfl, z9, S.box memA, S.frame⟩
set_option maxRecDepth 100000 in
set_option maxHeartbeats 6400000 in
theorem WayNext_c (w : World) (s o : St) (c0 c1 : List Value) (h1 : tSt.rd w s c0) (h2 : tSt.rd w o c1) : Calls Try.prog 33 #[.agg c0.toArray, .agg c1.toArray] w (RetRow tInt 3 (nextV s o) w) := by
  have Q := Lib.hid h1
  have Q2 := Lib.hid h2
  obtain ⟨v1, v2, v3, v4, rfl, _⟩ := h1
  obtain ⟨x1, x2, x3, x4, rfl, _⟩ := h2
  have FIN := Lib.hid (fun (W : World) (f : Fr w W) => tSt.fr f Q.out)
  have FIO := Lib.hid (fun (W : World) (f : Fr w W) => tSt.fr f Q2.out)
  have S := Sep.start w
  cases o1 : okSt s with
  | false =>
    have R := Lib.hid (show nextV s o = [] by simp [nextV, nextTo, mayV, o1])
    have O1 := Lib.hid o1
    clear o1
    go_enter Try.func33, Try.ntmps33
    go_wp2_with (first
      | ((with_reducible refine gate_dst (N := 2) rfl ?_); refine aBx S ?_; clear S; intro gS w9 z9 S)
      | ((with_reducible refine gate_dst (N := 3) rfl ?_); refine aBx S ?_; clear S; intro gO w9 z9 S)
      | (go_at_call 19; (with_reducible refine (StateOk_r _ s _ (FIN.out _ S.frame) O1.out).mono ?_); rintro e w9 ⟨rfl, f9⟩; replace S := S.fr f9; clear f9)
      | ((with_reducible refine gate_box rfl ?_); refine aBx S ?_; clear S; intro g9 w9 z9 S) | ((with_reducible refine gate_load rfl ?_); first | refine aLd S ?_ | refine aPt S ?_ | refine aL1 S ?_))
    go_ret
    rw [R.out]
    exact (S.addNil tInt 3).retRow List.mem_cons_self
  | true =>
  cases o2 : okSt o with
  | false =>
    have R := Lib.hid (show nextV s o = [] by simp [nextV, nextTo, mayV, o2])
    have O1 := Lib.hid o1
    have O2 := Lib.hid o2
    clear o1 o2
    go_enter Try.func33, Try.ntmps33
    go_wp2_with (first
      | ((with_reducible refine gate_dst (N := 2) rfl ?_); refine aBx S ?_; clear S; intro gS w9 z9 S)
      | ((with_reducible refine gate_dst (N := 3) rfl ?_); refine aBx S ?_; clear S; intro gO w9 z9 S)
      | (go_at_call 19; (with_reducible refine (StateOk_r _ s _ (FIN.out _ S.frame) O1.out).mono ?_); rintro e w9 ⟨rfl, f9⟩; replace S := S.fr f9; clear f9)
      | (go_at_call 19; (with_reducible refine (StateOk_r _ o _ (FIO.out _ S.frame) O2.out).mono ?_); rintro e w9 ⟨rfl, f9⟩; replace S := S.fr f9; clear f9)
      | ((with_reducible refine gate_box rfl ?_); refine aBx S ?_; clear S; intro g9 w9 z9 S) | ((with_reducible refine gate_load rfl ?_); first | refine aLd S ?_ | refine aPt S ?_ | refine aL1 S ?_))
    go_ret
    rw [R.out]
    exact (S.addNil tInt 3).retRow List.mem_cons_self
  | true =>
  have MV := Lib.hid (fun n : Int => show mayV s o n = mayL s o n by unfold mayV; rw [o1, o2]; rfl)
  have O1 := Lib.hid o1
  have O2 := Lib.hid o2
  clear o1 o2
  obtain ⟨i0, hi, hz0, hz1, hz2⟩ := info_parts linfo3
  have HI := Lib.hid hi
  have HZ := Lib.hid (And.intro hz0 (And.intro hz1 hz2))
  clear hi hz0 hz1 hz2
  go_enter Try.func33, Try.ntmps33
  go_wp2_with (first
    | ((with_reducible refine gate_dst (N := 2) rfl ?_); refine aBx S ?_; clear S; intro gS w9 z9 S)
    | ((with_reducible refine gate_dst (N := 3) rfl ?_); refine aBx S ?_; clear S; intro gO w9 z9 S)
    | (go_at_call 19; (with_reducible refine (StateOk_r _ s _ (FIN.out _ S.frame) O1.out).mono ?_); rintro e w9 ⟨rfl, f9⟩; replace S := S.fr f9; clear f9)
    | (go_at_call 19; (with_reducible refine (StateOk_r _ o _ (FIO.out _ S.frame) O2.out).mono ?_); rintro e w9 ⟨rfl, f9⟩; replace S := S.fr f9; clear f9)
    | (go_at_call 56; (with_reducible refine (waySteps_c _).mono ?_); rintro e w9 ⟨gT, rfl, z9, k9, f9⟩; replace S := S.new (aBox gT 72 21 [.int .i64 1, .func (.func 66) #[] #[], .func (.func 67) #[] #[], .int .i64 2, .func (.func 68) #[] #[], .func (.func 69) #[] #[], .int .i64 3, .func (.func 70) #[] #[], .func (.func 71) #[] #[], .int .i64 4, .func (.func 72) #[] #[], .func (.func 73) #[] #[], .int .i64 5, .func (.func 74) #[] #[], .func (.func 75) #[] #[], .int .i64 6, .func (.func 76) #[] #[], .func (.func 75) #[] #[], .int .i64 7, .func (.func 77) #[] #[], .func (.func 78) #[] #[]]) ⟨k9, rfl⟩ (by simp [aBox]) (fun q hq => by rw [List.mem_singleton.1 hq]; exact z9) f9; clear k9 f9)
    | ((with_reducible refine gate_box rfl ?_); refine aBx S ?_; clear S; intro g9 w9 z9 S) | ((with_reducible refine gate_load rfl ?_); first | refine aLd S ?_ | refine aPt S ?_ | refine aL1 S ?_))
  go_loopw [18, 5] (fun i out wr => ∃ (k : Nat) (F : List Nat), k ≤ 7 ∧ i = .int .i64 (k : Int) ∧ Sep [] w [aRow tInt 3 (nextTo s o k) out F, aBox gT 72 21 [.int .i64 1, .func (.func 66) #[] #[], .func (.func 67) #[] #[], .int .i64 2, .func (.func 68) #[] #[], .func (.func 69) #[] #[], .int .i64 3, .func (.func 70) #[] #[], .func (.func 71) #[] #[], .int .i64 4, .func (.func 72) #[] #[], .func (.func 73) #[] #[], .int .i64 5, .func (.func 74) #[] #[], .func (.func 75) #[] #[], .int .i64 6, .func (.func 76) #[] #[], .func (.func 75) #[] #[], .int .i64 7, .func (.func 77) #[] #[], .func (.func 78) #[] #[]], aBox gS 26 7 [.int .i64 s.way, .int .i64 s.vsn, .int .i64 s.want, v1, v2, v3, v4], aBox gO 26 7 [.int .i64 o.way, .int .i64 o.vsn, .int .i64 o.want, x1, x2, x3, x4]] wr) (fun i _ _ => 9 - (intOf i).toNat)
  case atStart => exact ⟨0, [], Nat.zero_le _, rfl, (by have S := S.addNil tInt 3; exact (Sep.only4 (a1 := aRow tInt _ [] _ _) (a2 := aBox gT _ _ _) (a3 := aBox gS _ _ _) (a4 := aBox gO _ _ _) S delA delA delA delA))⟩
  case round =>
    clear S
    obtain ⟨k, F, hk, rfl, S⟩ := hrel
    rcases (by omega : k = 0 ∨ k = 1 ∨ k = 2 ∨ k = 3 ∨ k = 4 ∨ k = 5 ∨ k = 6 ∨ k = 7) with rfl | rfl | rfl | rfl | rfl | rfl | rfl | rfl
    · cases m1 : mayL s o 1 with
      | false =>
        have R := Lib.hid (nextTo_no (s := s) (o := o) (k := 0) (by rw [MV.out]; exact m1))
        have M1 := Lib.hid m1
        have LT := Lib.hid (nextTo_len s o 0)
        clear m1
        go_wp2_with (first
          | ((with_reducible refine gate_dst (N := 23) rfl ?_); refine wpList_sload1 S (by rfl) 28 _ rfl rfl memA _ Try.underlying28 rfl _ (by (conv => lhs; simp only [List.getElem?_cons_succ, List.getElem?_cons_zero]); try exact rfl) ?_)
          | (go_at_call 66; (with_reducible refine (way1_r _ s o _ _ (FIN.out _ S.frame) (FIO.out _ S.frame) O1.out O2.out M1.out).mono ?_); rintro e w9 ⟨rfl, f9⟩; replace S := S.fr f9; clear f9)
          | ((with_reducible refine gate_dst (N := 30) rfl ?_); refine wpList_sints S (by rfl) 3 [1] 1 rfl (by decide) (by first | (go_simp; done) | (go_simp; rfl)) ?_; clear S; intro g21 w9 z9 S)
          | ((with_reducible refine gate_dst (N := 31) rfl ?_); refine wpList_sappd S rfl _ _ _ rfl 3 i0 Try.underlying24 HI.out HZ.out.1 HZ.out.2.1 HZ.out.2.2 (xs := nextTo s o 0) (v := u5) (F := F) delA rfl ⟨g21, 0, none⟩ 1 1 [1] rfl rfl (S.row (d := tInt) (xs := [1]) memA).row (by decide) (by have := LT.out; omega) ?_; clear S; intro v9 F9 w9 S)
          | ((with_reducible refine gate_dst (N := 7) rfl ?_); refine aAl S ?_; clear S; intro g7 w9 z9 S)
          | ((with_reducible refine gate_st rfl ?_); (first | refine aSt S ?_ | refine aS1 S ?_ | refine aSp S ?_); clear S; intro w9 S)
          | ((with_reducible refine gate_box rfl ?_); refine aBx S ?_; clear S; intro g9 w9 z9 S) | ((with_reducible refine gate_load rfl ?_); first | refine aLd S ?_ | refine aPt S ?_ | refine aL1 S ?_))
        go_roundw
        case rel => exact ⟨1, F, by omega, by go_num, by rw [R.out]; exact (Sep.only4 (a1 := aRow tInt _ (nextTo s o 0) _ _) (a2 := aBox gT _ _ _) (a3 := aBox gS _ _ _) (a4 := aBox gO _ _ _) S delA delA delA delA)⟩
        case measure => simp [intOf]
      | true =>
        have R := Lib.hid (nextTo_yes (s := s) (o := o) (k := 0) (by rw [MV.out]; exact m1))
        have M1 := Lib.hid m1
        have LT := Lib.hid (nextTo_len s o 0)
        clear m1
        go_wp2_with (first
          | ((with_reducible refine gate_dst (N := 23) rfl ?_); refine wpList_sload1 S (by rfl) 28 _ rfl rfl memA _ Try.underlying28 rfl _ (by (conv => lhs; simp only [List.getElem?_cons_succ, List.getElem?_cons_zero]); try exact rfl) ?_)
          | (go_at_call 66; (with_reducible refine (way1_r _ s o _ _ (FIN.out _ S.frame) (FIO.out _ S.frame) O1.out O2.out M1.out).mono ?_); rintro e w9 ⟨rfl, f9⟩; replace S := S.fr f9; clear f9)
          | ((with_reducible refine gate_dst (N := 30) rfl ?_); refine wpList_sints S (by rfl) 3 [1] 1 rfl (by decide) (by first | (go_simp; done) | (go_simp; rfl)) ?_; clear S; intro g21 w9 z9 S)
          | ((with_reducible refine gate_dst (N := 31) rfl ?_); refine wpList_sappd S rfl _ _ _ rfl 3 i0 Try.underlying24 HI.out HZ.out.1 HZ.out.2.1 HZ.out.2.2 (xs := nextTo s o 0) (v := u5) (F := F) delA rfl ⟨g21, 0, none⟩ 1 1 [1] rfl rfl (S.row (d := tInt) (xs := [1]) memA).row (by decide) (by have := LT.out; omega) ?_; clear S; intro v9 F9 w9 S)
          | ((with_reducible refine gate_dst (N := 7) rfl ?_); refine aAl S ?_; clear S; intro g7 w9 z9 S)
          | ((with_reducible refine gate_st rfl ?_); (first | refine aSt S ?_ | refine aS1 S ?_ | refine aSp S ?_); clear S; intro w9 S)
          | ((with_reducible refine gate_box rfl ?_); refine aBx S ?_; clear S; intro g9 w9 z9 S) | ((with_reducible refine gate_load rfl ?_); first | refine aLd S ?_ | refine aPt S ?_ | refine aL1 S ?_))
        go_roundw
        case rel => exact ⟨1, _, by omega, by go_num, by rw [R.out]; exact (Sep.only4 (a1 := aRow tInt _ (nextTo s o 0 ++ [1]) _ _) (a2 := aBox gT _ _ _) (a3 := aBox gS _ _ _) (a4 := aBox gO _ _ _) S delA delA delA delA)⟩
        case measure => simp [intOf]
    · cases m1 : mayL s o 2 with
      | false =>
        have R := Lib.hid (nextTo_no (s := s) (o := o) (k := 1) (by rw [MV.out]; exact m1))
        have M1 := Lib.hid m1
        have LT := Lib.hid (nextTo_len s o 1)
        clear m1
        go_wp2_with (first
          | ((with_reducible refine gate_dst (N := 23) rfl ?_); refine wpList_sload1 S (by rfl) 28 _ rfl rfl memA _ Try.underlying28 rfl _ (by (conv => lhs; simp only [List.getElem?_cons_succ, List.getElem?_cons_zero]); try exact rfl) ?_)
          | (go_at_call 68; (with_reducible refine (way2_r _ s o _ _ (FIN.out _ S.frame) (FIO.out _ S.frame) O1.out O2.out M1.out).mono ?_); rintro e w9 ⟨rfl, f9⟩; replace S := S.fr f9; clear f9)
          | ((with_reducible refine gate_dst (N := 30) rfl ?_); refine wpList_sints S (by rfl) 3 [2] 1 rfl (by decide) (by first | (go_simp; done) | (go_simp; rfl)) ?_; clear S; intro g21 w9 z9 S)
          | ((with_reducible refine gate_dst (N := 31) rfl ?_); refine wpList_sappd S rfl _ _ _ rfl 3 i0 Try.underlying24 HI.out HZ.out.1 HZ.out.2.1 HZ.out.2.2 (xs := nextTo s o 1) (v := u5) (F := F) delA rfl ⟨g21, 0, none⟩ 1 1 [2] rfl rfl (S.row (d := tInt) (xs := [2]) memA).row (by decide) (by have := LT.out; omega) ?_; clear S; intro v9 F9 w9 S)
          | ((with_reducible refine gate_dst (N := 7) rfl ?_); refine aAl S ?_; clear S; intro g7 w9 z9 S)
          | ((with_reducible refine gate_st rfl ?_); (first | refine aSt S ?_ | refine aS1 S ?_ | refine aSp S ?_); clear S; intro w9 S)
          | ((with_reducible refine gate_box rfl ?_); refine aBx S ?_; clear S; intro g9 w9 z9 S) | ((with_reducible refine gate_load rfl ?_); first | refine aLd S ?_ | refine aPt S ?_ | refine aL1 S ?_))
        go_roundw
        case rel => exact ⟨2, F, by omega, by go_num, by rw [R.out]; exact (Sep.only4 (a1 := aRow tInt _ (nextTo s o 1) _ _) (a2 := aBox gT _ _ _) (a3 := aBox gS _ _ _) (a4 := aBox gO _ _ _) S delA delA delA delA)⟩
        case measure => simp [intOf]
      | true =>
        have R := Lib.hid (nextTo_yes (s := s) (o := o) (k := 1) (by rw [MV.out]; exact m1))
        have M1 := Lib.hid m1
        have LT := Lib.hid (nextTo_len s o 1)
        clear m1
        go_wp2_with (first
          | ((with_reducible refine gate_dst (N := 23) rfl ?_); refine wpList_sload1 S (by rfl) 28 _ rfl rfl memA _ Try.underlying28 rfl _ (by (conv => lhs; simp only [List.getElem?_cons_succ, List.getElem?_cons_zero]); try exact rfl) ?_)
          | (go_at_call 68; (with_reducible refine (way2_r _ s o _ _ (FIN.out _ S.frame) (FIO.out _ S.frame) O1.out O2.out M1.out).mono ?_); rintro e w9 ⟨rfl, f9⟩; replace S := S.fr f9; clear f9)
          | ((with_reducible refine gate_dst (N := 30) rfl ?_); refine wpList_sints S (by rfl) 3 [2] 1 rfl (by decide) (by first | (go_simp; done) | (go_simp; rfl)) ?_; clear S; intro g21 w9 z9 S)
          | ((with_reducible refine gate_dst (N := 31) rfl ?_); refine wpList_sappd S rfl _ _ _ rfl 3 i0 Try.underlying24 HI.out HZ.out.1 HZ.out.2.1 HZ.out.2.2 (xs := nextTo s o 1) (v := u5) (F := F) delA rfl ⟨g21, 0, none⟩ 1 1 [2] rfl rfl (S.row (d := tInt) (xs := [2]) memA).row (by decide) (by have := LT.out; omega) ?_; clear S; intro v9 F9 w9 S)
          | ((with_reducible refine gate_dst (N := 7) rfl ?_); refine aAl S ?_; clear S; intro g7 w9 z9 S)
          | ((with_reducible refine gate_st rfl ?_); (first | refine aSt S ?_ | refine aS1 S ?_ | refine aSp S ?_); clear S; intro w9 S)
          | ((with_reducible refine gate_box rfl ?_); refine aBx S ?_; clear S; intro g9 w9 z9 S) | ((with_reducible refine gate_load rfl ?_); first | refine aLd S ?_ | refine aPt S ?_ | refine aL1 S ?_))
        go_roundw
        case rel => exact ⟨2, _, by omega, by go_num, by rw [R.out]; exact (Sep.only4 (a1 := aRow tInt _ (nextTo s o 1 ++ [2]) _ _) (a2 := aBox gT _ _ _) (a3 := aBox gS _ _ _) (a4 := aBox gO _ _ _) S delA delA delA delA)⟩
        case measure => simp [intOf]
    · cases m1 : mayL s o 3 with
      | false =>
        have R := Lib.hid (nextTo_no (s := s) (o := o) (k := 2) (by rw [MV.out]; exact m1))
        have M1 := Lib.hid m1
        have LT := Lib.hid (nextTo_len s o 2)
        clear m1
        go_wp2_with (first
          | ((with_reducible refine gate_dst (N := 23) rfl ?_); refine wpList_sload1 S (by rfl) 28 _ rfl rfl memA _ Try.underlying28 rfl _ (by (conv => lhs; simp only [List.getElem?_cons_succ, List.getElem?_cons_zero]); try exact rfl) ?_)
          | (go_at_call 70; (with_reducible refine (way3_r _ s o _ _ (FIN.out _ S.frame) (FIO.out _ S.frame) O1.out O2.out M1.out).mono ?_); rintro e w9 ⟨rfl, f9⟩; replace S := S.fr f9; clear f9)
          | ((with_reducible refine gate_dst (N := 30) rfl ?_); refine wpList_sints S (by rfl) 3 [3] 1 rfl (by decide) (by first | (go_simp; done) | (go_simp; rfl)) ?_; clear S; intro g21 w9 z9 S)
          | ((with_reducible refine gate_dst (N := 31) rfl ?_); refine wpList_sappd S rfl _ _ _ rfl 3 i0 Try.underlying24 HI.out HZ.out.1 HZ.out.2.1 HZ.out.2.2 (xs := nextTo s o 2) (v := u5) (F := F) delA rfl ⟨g21, 0, none⟩ 1 1 [3] rfl rfl (S.row (d := tInt) (xs := [3]) memA).row (by decide) (by have := LT.out; omega) ?_; clear S; intro v9 F9 w9 S)
          | ((with_reducible refine gate_dst (N := 7) rfl ?_); refine aAl S ?_; clear S; intro g7 w9 z9 S)
          | ((with_reducible refine gate_st rfl ?_); (first | refine aSt S ?_ | refine aS1 S ?_ | refine aSp S ?_); clear S; intro w9 S)
          | ((with_reducible refine gate_box rfl ?_); refine aBx S ?_; clear S; intro g9 w9 z9 S) | ((with_reducible refine gate_load rfl ?_); first | refine aLd S ?_ | refine aPt S ?_ | refine aL1 S ?_))
        go_roundw
        case rel => exact ⟨3, F, by omega, by go_num, by rw [R.out]; exact (Sep.only4 (a1 := aRow tInt _ (nextTo s o 2) _ _) (a2 := aBox gT _ _ _) (a3 := aBox gS _ _ _) (a4 := aBox gO _ _ _) S delA delA delA delA)⟩
        case measure => simp [intOf]
      | true =>
        have R := Lib.hid (nextTo_yes (s := s) (o := o) (k := 2) (by rw [MV.out]; exact m1))
        have M1 := Lib.hid m1
        have LT := Lib.hid (nextTo_len s o 2)
        clear m1
        go_wp2_with (first
          | ((with_reducible refine gate_dst (N := 23) rfl ?_); refine wpList_sload1 S (by rfl) 28 _ rfl rfl memA _ Try.underlying28 rfl _ (by (conv => lhs; simp only [List.getElem?_cons_succ, List.getElem?_cons_zero]); try exact rfl) ?_)
          | (go_at_call 70; (with_reducible refine (way3_r _ s o _ _ (FIN.out _ S.frame) (FIO.out _ S.frame) O1.out O2.out M1.out).mono ?_); rintro e w9 ⟨rfl, f9⟩; replace S := S.fr f9; clear f9)
          | ((with_reducible refine gate_dst (N := 30) rfl ?_); refine wpList_sints S (by rfl) 3 [3] 1 rfl (by decide) (by first | (go_simp; done) | (go_simp; rfl)) ?_; clear S; intro g21 w9 z9 S)
          | ((with_reducible refine gate_dst (N := 31) rfl ?_); refine wpList_sappd S rfl _ _ _ rfl 3 i0 Try.underlying24 HI.out HZ.out.1 HZ.out.2.1 HZ.out.2.2 (xs := nextTo s o 2) (v := u5) (F := F) delA rfl ⟨g21, 0, none⟩ 1 1 [3] rfl rfl (S.row (d := tInt) (xs := [3]) memA).row (by decide) (by have := LT.out; omega) ?_; clear S; intro v9 F9 w9 S)
          | ((with_reducible refine gate_dst (N := 7) rfl ?_); refine aAl S ?_; clear S; intro g7 w9 z9 S)
          | ((with_reducible refine gate_st rfl ?_); (first | refine aSt S ?_ | refine aS1 S ?_ | refine aSp S ?_); clear S; intro w9 S)
          | ((with_reducible refine gate_box rfl ?_); refine aBx S ?_; clear S; intro g9 w9 z9 S) | ((with_reducible refine gate_load rfl ?_); first | refine aLd S ?_ | refine aPt S ?_ | refine aL1 S ?_))
        go_roundw
        case rel => exact ⟨3, _, by omega, by go_num, by rw [R.out]; exact (Sep.only4 (a1 := aRow tInt _ (nextTo s o 2 ++ [3]) _ _) (a2 := aBox gT _ _ _) (a3 := aBox gS _ _ _) (a4 := aBox gO _ _ _) S delA delA delA delA)⟩
        case measure => simp [intOf]
    · cases m1 : mayL s o 4 with
      | false =>
        have R := Lib.hid (nextTo_no (s := s) (o := o) (k := 3) (by rw [MV.out]; exact m1))
        have M1 := Lib.hid m1
        have LT := Lib.hid (nextTo_len s o 3)
        clear m1
        go_wp2_with (first
          | ((with_reducible refine gate_dst (N := 23) rfl ?_); refine wpList_sload1 S (by rfl) 28 _ rfl rfl memA _ Try.underlying28 rfl _ (by (conv => lhs; simp only [List.getElem?_cons_succ, List.getElem?_cons_zero]); try exact rfl) ?_)
          | (go_at_call 72; (with_reducible refine (way4_r _ s o _ _ (FIN.out _ S.frame) (FIO.out _ S.frame) O1.out O2.out M1.out).mono ?_); rintro e w9 ⟨rfl, f9⟩; replace S := S.fr f9; clear f9)
          | ((with_reducible refine gate_dst (N := 30) rfl ?_); refine wpList_sints S (by rfl) 3 [4] 1 rfl (by decide) (by first | (go_simp; done) | (go_simp; rfl)) ?_; clear S; intro g21 w9 z9 S)
          | ((with_reducible refine gate_dst (N := 31) rfl ?_); refine wpList_sappd S rfl _ _ _ rfl 3 i0 Try.underlying24 HI.out HZ.out.1 HZ.out.2.1 HZ.out.2.2 (xs := nextTo s o 3) (v := u5) (F := F) delA rfl ⟨g21, 0, none⟩ 1 1 [4] rfl rfl (S.row (d := tInt) (xs := [4]) memA).row (by decide) (by have := LT.out; omega) ?_; clear S; intro v9 F9 w9 S)
          | ((with_reducible refine gate_dst (N := 7) rfl ?_); refine aAl S ?_; clear S; intro g7 w9 z9 S)
          | ((with_reducible refine gate_st rfl ?_); (first | refine aSt S ?_ | refine aS1 S ?_ | refine aSp S ?_); clear S; intro w9 S)
          | ((with_reducible refine gate_box rfl ?_); refine aBx S ?_; clear S; intro g9 w9 z9 S) | ((with_reducible refine gate_load rfl ?_); first | refine aLd S ?_ | refine aPt S ?_ | refine aL1 S ?_))
        go_roundw
        case rel => exact ⟨4, F, by omega, by go_num, by rw [R.out]; exact (Sep.only4 (a1 := aRow tInt _ (nextTo s o 3) _ _) (a2 := aBox gT _ _ _) (a3 := aBox gS _ _ _) (a4 := aBox gO _ _ _) S delA delA delA delA)⟩
        case measure => simp [intOf]
      | true =>
        have R := Lib.hid (nextTo_yes (s := s) (o := o) (k := 3) (by rw [MV.out]; exact m1))
        have M1 := Lib.hid m1
        have LT := Lib.hid (nextTo_len s o 3)
        clear m1
        go_wp2_with (first
          | ((with_reducible refine gate_dst (N := 23) rfl ?_); refine wpList_sload1 S (by rfl) 28 _ rfl rfl memA _ Try.underlying28 rfl _ (by (conv => lhs; simp only [List.getElem?_cons_succ, List.getElem?_cons_zero]); try exact rfl) ?_)
          | (go_at_call 72; (with_reducible refine (way4_r _ s o _ _ (FIN.out _ S.frame) (FIO.out _ S.frame) O1.out O2.out M1.out).mono ?_); rintro e w9 ⟨rfl, f9⟩; replace S := S.fr f9; clear f9)
          | ((with_reducible refine gate_dst (N := 30) rfl ?_); refine wpList_sints S (by rfl) 3 [4] 1 rfl (by decide) (by first | (go_simp; done) | (go_simp; rfl)) ?_; clear S; intro g21 w9 z9 S)
          | ((with_reducible refine gate_dst (N := 31) rfl ?_); refine wpList_sappd S rfl _ _ _ rfl 3 i0 Try.underlying24 HI.out HZ.out.1 HZ.out.2.1 HZ.out.2.2 (xs := nextTo s o 3) (v := u5) (F := F) delA rfl ⟨g21, 0, none⟩ 1 1 [4] rfl rfl (S.row (d := tInt) (xs := [4]) memA).row (by decide) (by have := LT.out; omega) ?_; clear S; intro v9 F9 w9 S)
          | ((with_reducible refine gate_dst (N := 7) rfl ?_); refine aAl S ?_; clear S; intro g7 w9 z9 S)
          | ((with_reducible refine gate_st rfl ?_); (first | refine aSt S ?_ | refine aS1 S ?_ | refine aSp S ?_); clear S; intro w9 S)
          | ((with_reducible refine gate_box rfl ?_); refine aBx S ?_; clear S; intro g9 w9 z9 S) | ((with_reducible refine gate_load rfl ?_); first | refine aLd S ?_ | refine aPt S ?_ | refine aL1 S ?_))
        go_roundw
        case rel => exact ⟨4, _, by omega, by go_num, by rw [R.out]; exact (Sep.only4 (a1 := aRow tInt _ (nextTo s o 3 ++ [4]) _ _) (a2 := aBox gT _ _ _) (a3 := aBox gS _ _ _) (a4 := aBox gO _ _ _) S delA delA delA delA)⟩
        case measure => simp [intOf]
    · cases m1 : mayL s o 5 with
      | false =>
        have R := Lib.hid (nextTo_no (s := s) (o := o) (k := 4) (by rw [MV.out]; exact m1))
        have M1 := Lib.hid m1
        have LT := Lib.hid (nextTo_len s o 4)
        clear m1
        go_wp2_with (first
          | ((with_reducible refine gate_dst (N := 23) rfl ?_); refine wpList_sload1 S (by rfl) 28 _ rfl rfl memA _ Try.underlying28 rfl _ (by (conv => lhs; simp only [List.getElem?_cons_succ, List.getElem?_cons_zero]); try exact rfl) ?_)
          | (go_at_call 74; (with_reducible refine (way5_r _ s o _ _ (FIN.out _ S.frame) (FIO.out _ S.frame) O1.out O2.out M1.out).mono ?_); rintro e w9 ⟨rfl, f9⟩; replace S := S.fr f9; clear f9)
          | ((with_reducible refine gate_dst (N := 30) rfl ?_); refine wpList_sints S (by rfl) 3 [5] 1 rfl (by decide) (by first | (go_simp; done) | (go_simp; rfl)) ?_; clear S; intro g21 w9 z9 S)
          | ((with_reducible refine gate_dst (N := 31) rfl ?_); refine wpList_sappd S rfl _ _ _ rfl 3 i0 Try.underlying24 HI.out HZ.out.1 HZ.out.2.1 HZ.out.2.2 (xs := nextTo s o 4) (v := u5) (F := F) delA rfl ⟨g21, 0, none⟩ 1 1 [5] rfl rfl (S.row (d := tInt) (xs := [5]) memA).row (by decide) (by have := LT.out; omega) ?_; clear S; intro v9 F9 w9 S)
          | ((with_reducible refine gate_dst (N := 7) rfl ?_); refine aAl S ?_; clear S; intro g7 w9 z9 S)
          | ((with_reducible refine gate_st rfl ?_); (first | refine aSt S ?_ | refine aS1 S ?_ | refine aSp S ?_); clear S; intro w9 S)
          | ((with_reducible refine gate_box rfl ?_); refine aBx S ?_; clear S; intro g9 w9 z9 S) | ((with_reducible refine gate_load rfl ?_); first | refine aLd S ?_ | refine aPt S ?_ | refine aL1 S ?_))
        go_roundw
        case rel => exact ⟨5, F, by omega, by go_num, by rw [R.out]; exact (Sep.only4 (a1 := aRow tInt _ (nextTo s o 4) _ _) (a2 := aBox gT _ _ _) (a3 := aBox gS _ _ _) (a4 := aBox gO _ _ _) S delA delA delA delA)⟩
        case measure => simp [intOf]
      | true =>
        have R := Lib.hid (nextTo_yes (s := s) (o := o) (k := 4) (by rw [MV.out]; exact m1))
        have M1 := Lib.hid m1
        have LT := Lib.hid (nextTo_len s o 4)
        clear m1
        go_wp2_with (first
          | ((with_reducible refine gate_dst (N := 23) rfl ?_); refine wpList_sload1 S (by rfl) 28 _ rfl rfl memA _ Try.underlying28 rfl _ (by (conv => lhs; simp only [List.getElem?_cons_succ, List.getElem?_cons_zero]); try exact rfl) ?_)
          | (go_at_call 74; (with_reducible refine (way5_r _ s o _ _ (FIN.out _ S.frame) (FIO.out _ S.frame) O1.out O2.out M1.out).mono ?_); rintro e w9 ⟨rfl, f9⟩; replace S := S.fr f9; clear f9)
          | ((with_reducible refine gate_dst (N := 30) rfl ?_); refine wpList_sints S (by rfl) 3 [5] 1 rfl (by decide) (by first | (go_simp; done) | (go_simp; rfl)) ?_; clear S; intro g21 w9 z9 S)
          | ((with_reducible refine gate_dst (N := 31) rfl ?_); refine wpList_sappd S rfl _ _ _ rfl 3 i0 Try.underlying24 HI.out HZ.out.1 HZ.out.2.1 HZ.out.2.2 (xs := nextTo s o 4) (v := u5) (F := F) delA rfl ⟨g21, 0, none⟩ 1 1 [5] rfl rfl (S.row (d := tInt) (xs := [5]) memA).row (by decide) (by have := LT.out; omega) ?_; clear S; intro v9 F9 w9 S)
          | ((with_reducible refine gate_dst (N := 7) rfl ?_); refine aAl S ?_; clear S; intro g7 w9 z9 S)
          | ((with_reducible refine gate_st rfl ?_); (first | refine aSt S ?_ | refine aS1 S ?_ | refine aSp S ?_); clear S; intro w9 S)
          | ((with_reducible refine gate_box rfl ?_); refine aBx S ?_; clear S; intro g9 w9 z9 S) | ((with_reducible refine gate_load rfl ?_); first | refine aLd S ?_ | refine aPt S ?_ | refine aL1 S ?_))
        go_roundw
        case rel => exact ⟨5, _, by omega, by go_num, by rw [R.out]; exact (Sep.only4 (a1 := aRow tInt _ (nextTo s o 4 ++ [5]) _ _) (a2 := aBox gT _ _ _) (a3 := aBox gS _ _ _) (a4 := aBox gO _ _ _) S delA delA delA delA)⟩
        case measure => simp [intOf]
    · cases m1 : mayL s o 6 with
      | false =>
        have R := Lib.hid (nextTo_no (s := s) (o := o) (k := 5) (by rw [MV.out]; exact m1))
        have M1 := Lib.hid m1
        have LT := Lib.hid (nextTo_len s o 5)
        clear m1
        go_wp2_with (first
          | ((with_reducible refine gate_dst (N := 23) rfl ?_); refine wpList_sload1 S (by rfl) 28 _ rfl rfl memA _ Try.underlying28 rfl _ (by (conv => lhs; simp only [List.getElem?_cons_succ, List.getElem?_cons_zero]); try exact rfl) ?_)
          | (go_at_call 76; (with_reducible refine (way6_r _ s o _ _ (FIN.out _ S.frame) (FIO.out _ S.frame) O1.out O2.out M1.out).mono ?_); rintro e w9 ⟨rfl, f9⟩; replace S := S.fr f9; clear f9)
          | ((with_reducible refine gate_dst (N := 30) rfl ?_); refine wpList_sints S (by rfl) 3 [6] 1 rfl (by decide) (by first | (go_simp; done) | (go_simp; rfl)) ?_; clear S; intro g21 w9 z9 S)
          | ((with_reducible refine gate_dst (N := 31) rfl ?_); refine wpList_sappd S rfl _ _ _ rfl 3 i0 Try.underlying24 HI.out HZ.out.1 HZ.out.2.1 HZ.out.2.2 (xs := nextTo s o 5) (v := u5) (F := F) delA rfl ⟨g21, 0, none⟩ 1 1 [6] rfl rfl (S.row (d := tInt) (xs := [6]) memA).row (by decide) (by have := LT.out; omega) ?_; clear S; intro v9 F9 w9 S)
          | ((with_reducible refine gate_dst (N := 7) rfl ?_); refine aAl S ?_; clear S; intro g7 w9 z9 S)
          | ((with_reducible refine gate_st rfl ?_); (first | refine aSt S ?_ | refine aS1 S ?_ | refine aSp S ?_); clear S; intro w9 S)
          | ((with_reducible refine gate_box rfl ?_); refine aBx S ?_; clear S; intro g9 w9 z9 S) | ((with_reducible refine gate_load rfl ?_); first | refine aLd S ?_ | refine aPt S ?_ | refine aL1 S ?_))
        go_roundw
        case rel => exact ⟨6, F, by omega, by go_num, by rw [R.out]; exact (Sep.only4 (a1 := aRow tInt _ (nextTo s o 5) _ _) (a2 := aBox gT _ _ _) (a3 := aBox gS _ _ _) (a4 := aBox gO _ _ _) S delA delA delA delA)⟩
        case measure => simp [intOf]
      | true =>
        have R := Lib.hid (nextTo_yes (s := s) (o := o) (k := 5) (by rw [MV.out]; exact m1))
        have M1 := Lib.hid m1
        have LT := Lib.hid (nextTo_len s o 5)
        clear m1
        go_wp2_with (first
          | ((with_reducible refine gate_dst (N := 23) rfl ?_); refine wpList_sload1 S (by rfl) 28 _ rfl rfl memA _ Try.underlying28 rfl _ (by (conv => lhs; simp only [List.getElem?_cons_succ, List.getElem?_cons_zero]); try exact rfl) ?_)
          | (go_at_call 76; (with_reducible refine (way6_r _ s o _ _ (FIN.out _ S.frame) (FIO.out _ S.frame) O1.out O2.out M1.out).mono ?_); rintro e w9 ⟨rfl, f9⟩; replace S := S.fr f9; clear f9)
          | ((with_reducible refine gate_dst (N := 30) rfl ?_); refine wpList_sints S (by rfl) 3 [6] 1 rfl (by decide) (by first | (go_simp; done) | (go_simp; rfl)) ?_; clear S; intro g21 w9 z9 S)
          | ((with_reducible refine gate_dst (N := 31) rfl ?_); refine wpList_sappd S rfl _ _ _ rfl 3 i0 Try.underlying24 HI.out HZ.out.1 HZ.out.2.1 HZ.out.2.2 (xs := nextTo s o 5) (v := u5) (F := F) delA rfl ⟨g21, 0, none⟩ 1 1 [6] rfl rfl (S.row (d := tInt) (xs := [6]) memA).row (by decide) (by have := LT.out; omega) ?_; clear S; intro v9 F9 w9 S)
          | ((with_reducible refine gate_dst (N := 7) rfl ?_); refine aAl S ?_; clear S; intro g7 w9 z9 S)
          | ((with_reducible refine gate_st rfl ?_); (first | refine aSt S ?_ | refine aS1 S ?_ | refine aSp S ?_); clear S; intro w9 S)
          | ((with_reducible refine gate_box rfl ?_); refine aBx S ?_; clear S; intro g9 w9 z9 S) | ((with_reducible refine gate_load rfl ?_); first | refine aLd S ?_ | refine aPt S ?_ | refine aL1 S ?_))
        go_roundw
        case rel => exact ⟨6, _, by omega, by go_num, by rw [R.out]; exact (Sep.only4 (a1 := aRow tInt _ (nextTo s o 5 ++ [6]) _ _) (a2 := aBox gT _ _ _) (a3 := aBox gS _ _ _) (a4 := aBox gO _ _ _) S delA delA delA delA)⟩
        case measure => simp [intOf]
    · cases m1 : mayL s o 7 with
      | false =>
        have R := Lib.hid (nextTo_no (s := s) (o := o) (k := 6) (by rw [MV.out]; exact m1))
        have M1 := Lib.hid m1
        have LT := Lib.hid (nextTo_len s o 6)
        clear m1
        go_wp2_with (first
          | ((with_reducible refine gate_dst (N := 23) rfl ?_); refine wpList_sload1 S (by rfl) 28 _ rfl rfl memA _ Try.underlying28 rfl _ (by (conv => lhs; simp only [List.getElem?_cons_succ, List.getElem?_cons_zero]); try exact rfl) ?_)
          | (go_at_call 77; (with_reducible refine (way7_r _ s o _ _ (FIN.out _ S.frame) (FIO.out _ S.frame) O1.out O2.out M1.out).mono ?_); rintro e w9 ⟨rfl, f9⟩; replace S := S.fr f9; clear f9)
          | ((with_reducible refine gate_dst (N := 30) rfl ?_); refine wpList_sints S (by rfl) 3 [7] 1 rfl (by decide) (by first | (go_simp; done) | (go_simp; rfl)) ?_; clear S; intro g21 w9 z9 S)
          | ((with_reducible refine gate_dst (N := 31) rfl ?_); refine wpList_sappd S rfl _ _ _ rfl 3 i0 Try.underlying24 HI.out HZ.out.1 HZ.out.2.1 HZ.out.2.2 (xs := nextTo s o 6) (v := u5) (F := F) delA rfl ⟨g21, 0, none⟩ 1 1 [7] rfl rfl (S.row (d := tInt) (xs := [7]) memA).row (by decide) (by have := LT.out; omega) ?_; clear S; intro v9 F9 w9 S)
          | ((with_reducible refine gate_dst (N := 7) rfl ?_); refine aAl S ?_; clear S; intro g7 w9 z9 S)
          | ((with_reducible refine gate_st rfl ?_); (first | refine aSt S ?_ | refine aS1 S ?_ | refine aSp S ?_); clear S; intro w9 S)
          | ((with_reducible refine gate_box rfl ?_); refine aBx S ?_; clear S; intro g9 w9 z9 S) | ((with_reducible refine gate_load rfl ?_); first | refine aLd S ?_ | refine aPt S ?_ | refine aL1 S ?_))
        go_roundw
        case rel => exact ⟨7, F, by omega, by go_num, by rw [R.out]; exact (Sep.only4 (a1 := aRow tInt _ (nextTo s o 6) _ _) (a2 := aBox gT _ _ _) (a3 := aBox gS _ _ _) (a4 := aBox gO _ _ _) S delA delA delA delA)⟩
        case measure => simp [intOf]
      | true =>
        have R := Lib.hid (nextTo_yes (s := s) (o := o) (k := 6) (by rw [MV.out]; exact m1))
        have M1 := Lib.hid m1
        have LT := Lib.hid (nextTo_len s o 6)
        clear m1
        go_wp2_with (first
          | ((with_reducible refine gate_dst (N := 23) rfl ?_); refine wpList_sload1 S (by rfl) 28 _ rfl rfl memA _ Try.underlying28 rfl _ (by (conv => lhs; simp only [List.getElem?_cons_succ, List.getElem?_cons_zero]); try exact rfl) ?_)
          | (go_at_call 77; (with_reducible refine (way7_r _ s o _ _ (FIN.out _ S.frame) (FIO.out _ S.frame) O1.out O2.out M1.out).mono ?_); rintro e w9 ⟨rfl, f9⟩; replace S := S.fr f9; clear f9)
          | ((with_reducible refine gate_dst (N := 30) rfl ?_); refine wpList_sints S (by rfl) 3 [7] 1 rfl (by decide) (by first | (go_simp; done) | (go_simp; rfl)) ?_; clear S; intro g21 w9 z9 S)
          | ((with_reducible refine gate_dst (N := 31) rfl ?_); refine wpList_sappd S rfl _ _ _ rfl 3 i0 Try.underlying24 HI.out HZ.out.1 HZ.out.2.1 HZ.out.2.2 (xs := nextTo s o 6) (v := u5) (F := F) delA rfl ⟨g21, 0, none⟩ 1 1 [7] rfl rfl (S.row (d := tInt) (xs := [7]) memA).row (by decide) (by have := LT.out; omega) ?_; clear S; intro v9 F9 w9 S)
          | ((with_reducible refine gate_dst (N := 7) rfl ?_); refine aAl S ?_; clear S; intro g7 w9 z9 S)
          | ((with_reducible refine gate_st rfl ?_); (first | refine aSt S ?_ | refine aS1 S ?_ | refine aSp S ?_); clear S; intro w9 S)
          | ((with_reducible refine gate_box rfl ?_); refine aBx S ?_; clear S; intro g9 w9 z9 S) | ((with_reducible refine gate_load rfl ?_); first | refine aLd S ?_ | refine aPt S ?_ | refine aL1 S ?_))
        go_roundw
        case rel => exact ⟨7, _, by omega, by go_num, by rw [R.out]; exact (Sep.only4 (a1 := aRow tInt _ (nextTo s o 6 ++ [7]) _ _) (a2 := aBox gT _ _ _) (a3 := aBox gS _ _ _) (a4 := aBox gO _ _ _) S delA delA delA delA)⟩
        case measure => simp [intOf]
    · go_wp2_with (first | ((with_reducible refine gate_box rfl ?_); refine aBx S ?_; clear S; intro g9 w9 z9 S) | ((with_reducible refine gate_load rfl ?_); first | refine aLd S ?_ | refine aPt S ?_ | refine aL1 S ?_))
      go_ret
      exact S.retRow List.mem_cons_self
end Go.Proofs.Ythnjambkgldjdaa
