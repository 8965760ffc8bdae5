/- The reference's copies of banks and chains, and its next height. -/
import Derived.Test.YtapdcgjccckjeaaChAt
namespace Go.Proofs.Ytapdcgjccckjeaa
set_option maxRecDepth 100000
set_option linter.unusedVariables false
set_option linter.unusedSimpArgs false
open Go.RowKit
set_option maxHeartbeats 6400000 in
theorem l1Copy_d (w : World) (b : Bk) (c1 : List Value) (h1 : tBk.rd w b c1) (hb : b.own.length ≤ 2097152 ∧ b.notes.length ≤ 2097152) : Calls Try.prog 129 #[.agg c1.toArray] w (RetOwn tBk b w) := by
  obtain ⟨v1, v2, rfl, h11, h12, h13⟩ := h1
  obtain ⟨b1, b2⟩ := hb
  obtain ⟨A1, m1, rfl⟩ := h11.val
  obtain ⟨A2, m2, rfl⟩ := h12.val
  have S := Sep.start w
  go_enter Try.func129, Try.ntmps129
  go_wp2_with (first | ((with_reducible refine gate_dst (N := 1) rfl ?_); refine aBx S ?_; clear S; intro gP w9 z9 S) | ((with_reducible refine gate_dst (N := 2) rfl ?_); refine aAl S ?_; clear S; intro gR w9 z9 S))
  have S0 := (Sep.only1 (a1 := aBox gP _ _ _) S delA)
  refine wp_region_noPanic ?_
  refine wp_region_held_drew (S := Sep _ _ _) (by kernel_rfl) S0.drew (fun _ => ?_)
  replace S := S.drew
  clear S0
  refine tk 1 ?_
  (try simp only [Act.put, List.setIfInBounds_toArray, List.set_cons_zero, List.set_cons_succ])
  refine tk 2 ?_
  (try simp only [Act.put, List.setIfInBounds_toArray, List.set_cons_zero, List.set_cons_succ])
  refine tk 5 ?_
  (try simp only [Act.put, List.setIfInBounds_toArray, List.set_cons_zero, List.set_cons_succ])
  refine tk 6 ?_
  (try simp only [Act.put, List.setIfInBounds_toArray, List.set_cons_zero, List.set_cons_succ])
  refine tk 8 ?_
  (try simp only [Act.put, List.setIfInBounds_toArray, List.set_cons_zero, List.set_cons_succ])
  refine tk 9 ?_
  (try simp only [Act.put, List.setIfInBounds_toArray, List.set_cons_zero, List.set_cons_succ])
  refine rdys [0, 4] ?_
  refine rdc 0 (fun K hK => ?_) ?_
  · refine rgLit0 tInt (e := 3) S ?_; clear S; intro g3 w9 z9 S
    (first | refine hK.out _ _ (S.sub subA) (fun _ => ?_) | (go_wp2_with fail; refine hK.out _ _ (S.sub subA) (fun _ => ?_)))
    clear hK K
    (try simp only [Act.put, List.setIfInBounds_toArray, List.set_cons_zero, List.set_cons_succ])
    refine rdys [3, 4] ?_
    refine rdc 3 (fun K hK => ?_) ?_
    · refine rgApR (v := .slice (some ⟨g3, 0, none⟩) 0 0) tInt_plain S delA (h11.fr S.frame) (.inr ⟨_, _, _, rfl⟩) (by simpa using b1) ?_; clear S; intro A6 c6 F6 w9 S
      (first | refine hK.out _ _ (S.sub subA) (fun _ => ?_) | (go_wp2_with fail; refine hK.out _ _ (S.sub subA) (fun _ => ?_)))
      clear hK K
      (try simp only [Act.put, List.setIfInBounds_toArray, List.set_cons_zero, List.set_cons_succ])
      refine rdy1 4 (fun K hK => ?_)
      refine rgLit0 tInt (e := 3) S ?_; clear S; intro g7 w9 z9 S
      (first | refine hK.out _ _ (S.sub subA) (fun _ => ?_) | (go_wp2_with fail; refine hK.out _ _ (S.sub subA) (fun _ => ?_)))
      clear hK K
      (try simp only [Act.put, List.setIfInBounds_toArray, List.set_cons_zero, List.set_cons_succ])
      refine rdy1 7 (fun K hK => ?_)
      refine rgApR (v := .slice (some ⟨g7, 0, none⟩) 0 0) tInt_plain S delA (h12.fr S.frame) (.inr ⟨_, _, _, rfl⟩) (by simpa using b2) ?_; clear S; intro A10 c10 F10 w9 S
      (first | refine hK.out _ _ (S.sub subA) (fun _ => ?_) | (go_wp2_with fail; refine hK.out _ _ (S.sub subA) (fun _ => ?_)))
      clear hK K
      (try simp only [Act.put, List.setIfInBounds_toArray, List.set_cons_zero, List.set_cons_succ])
      refine tk 10 ?_
      (try simp only [Act.put, List.setIfInBounds_toArray, List.set_cons_zero, List.set_cons_succ])
      refine rdy1 11 (fun K hK => ?_)
      (first | refine rgS1 S ?_ | refine rgSt S ?_ | refine rgSp S ?_); clear S; intro w9 S
      (first | refine hK.out _ _ (S.sub subA) (fun _ => ?_) | (go_wp2_with fail; refine hK.out _ _ (S.sub subA) (fun _ => ?_)))
      clear hK K
      (try simp only [Act.put, List.setIfInBounds_toArray, List.set_cons_zero, List.set_cons_succ])
      refine wpAnyH_done (by kernel_rfl) ?_ _
      refine NoPanic.normal ?_
      go_wp2
      have S' := Sep.shutBk (l := b.locked) (S.front2 (a1 := aRow tInt _ b.own _ F6) (a2 := aRow tInt _ b.notes _ F10)) h13
      (refine Sep.ret1 S rfl rfl memA Try.underlying26 rfl ts26 rfl ?_)
      exact S'.retOwn List.mem_cons_self
    refine rdc 4 (fun K hK => ?_) AllReadyH.nil
    refine rgLit0 tInt (e := 3) S ?_; clear S; intro g7 w9 z9 S
    (first | refine hK.out _ _ (S.sub subA) (fun _ => ?_) | (go_wp2_with fail; refine hK.out _ _ (S.sub subA) (fun _ => ?_)))
    clear hK K
    (try simp only [Act.put, List.setIfInBounds_toArray, List.set_cons_zero, List.set_cons_succ])
    refine rdy1 3 (fun K hK => ?_)
    refine rgApR (v := .slice (some ⟨g3, 0, none⟩) 0 0) tInt_plain S delA (h11.fr S.frame) (.inr ⟨_, _, _, rfl⟩) (by simpa using b1) ?_; clear S; intro A6 c6 F6 w9 S
    (first | refine hK.out _ _ (S.sub subA) (fun _ => ?_) | (go_wp2_with fail; refine hK.out _ _ (S.sub subA) (fun _ => ?_)))
    clear hK K
    (try simp only [Act.put, List.setIfInBounds_toArray, List.set_cons_zero, List.set_cons_succ])
    refine rdy1 7 (fun K hK => ?_)
    refine rgApR (v := .slice (some ⟨g7, 0, none⟩) 0 0) tInt_plain S delA (h12.fr S.frame) (.inr ⟨_, _, _, rfl⟩) (by simpa using b2) ?_; clear S; intro A10 c10 F10 w9 S
    (first | refine hK.out _ _ (S.sub subA) (fun _ => ?_) | (go_wp2_with fail; refine hK.out _ _ (S.sub subA) (fun _ => ?_)))
    clear hK K
    (try simp only [Act.put, List.setIfInBounds_toArray, List.set_cons_zero, List.set_cons_succ])
    refine tk 10 ?_
    (try simp only [Act.put, List.setIfInBounds_toArray, List.set_cons_zero, List.set_cons_succ])
    refine rdy1 11 (fun K hK => ?_)
    (first | refine rgS1 S ?_ | refine rgSt S ?_ | refine rgSp S ?_); clear S; intro w9 S
    (first | refine hK.out _ _ (S.sub subA) (fun _ => ?_) | (go_wp2_with fail; refine hK.out _ _ (S.sub subA) (fun _ => ?_)))
    clear hK K
    (try simp only [Act.put, List.setIfInBounds_toArray, List.set_cons_zero, List.set_cons_succ])
    refine wpAnyH_done (by kernel_rfl) ?_ _
    refine NoPanic.normal ?_
    go_wp2
    have S' := Sep.shutBk (l := b.locked) (S.front2 (a1 := aRow tInt _ b.own _ F6) (a2 := aRow tInt _ b.notes _ F10)) h13
    (refine Sep.ret1 S rfl rfl memA Try.underlying26 rfl ts26 rfl ?_)
    exact S'.retOwn List.mem_cons_self
  refine rdc 4 (fun K hK => ?_) AllReadyH.nil
  refine rgLit0 tInt (e := 3) S ?_; clear S; intro g7 w9 z9 S
  (first | refine hK.out _ _ (S.sub subA) (fun _ => ?_) | (go_wp2_with fail; refine hK.out _ _ (S.sub subA) (fun _ => ?_)))
  clear hK K
  (try simp only [Act.put, List.setIfInBounds_toArray, List.set_cons_zero, List.set_cons_succ])
  refine rdy1 0 (fun K hK => ?_)
  refine rgLit0 tInt (e := 3) S ?_; clear S; intro g3 w9 z9 S
  (first | refine hK.out _ _ (S.sub subA) (fun _ => ?_) | (go_wp2_with fail; refine hK.out _ _ (S.sub subA) (fun _ => ?_)))
  clear hK K
  (try simp only [Act.put, List.setIfInBounds_toArray, List.set_cons_zero, List.set_cons_succ])
  refine rdy1 3 (fun K hK => ?_)
  refine rgApR (v := .slice (some ⟨g3, 0, none⟩) 0 0) tInt_plain S delA (h11.fr S.frame) (.inr ⟨_, _, _, rfl⟩) (by simpa using b1) ?_; clear S; intro A6 c6 F6 w9 S
  (first | refine hK.out _ _ (S.sub subA) (fun _ => ?_) | (go_wp2_with fail; refine hK.out _ _ (S.sub subA) (fun _ => ?_)))
  clear hK K
  (try simp only [Act.put, List.setIfInBounds_toArray, List.set_cons_zero, List.set_cons_succ])
  refine rdy1 7 (fun K hK => ?_)
  refine rgApR (v := .slice (some ⟨g7, 0, none⟩) 0 0) tInt_plain S delA (h12.fr S.frame) (.inr ⟨_, _, _, rfl⟩) (by simpa using b2) ?_; clear S; intro A10 c10 F10 w9 S
  (first | refine hK.out _ _ (S.sub subA) (fun _ => ?_) | (go_wp2_with fail; refine hK.out _ _ (S.sub subA) (fun _ => ?_)))
  clear hK K
  (try simp only [Act.put, List.setIfInBounds_toArray, List.set_cons_zero, List.set_cons_succ])
  refine tk 10 ?_
  (try simp only [Act.put, List.setIfInBounds_toArray, List.set_cons_zero, List.set_cons_succ])
  refine rdy1 11 (fun K hK => ?_)
  (first | refine rgS1 S ?_ | refine rgSt S ?_ | refine rgSp S ?_); clear S; intro w9 S
  (first | refine hK.out _ _ (S.sub subA) (fun _ => ?_) | (go_wp2_with fail; refine hK.out _ _ (S.sub subA) (fun _ => ?_)))
  clear hK K
  (try simp only [Act.put, List.setIfInBounds_toArray, List.set_cons_zero, List.set_cons_succ])
  refine wpAnyH_done (by kernel_rfl) ?_ _
  refine NoPanic.normal ?_
  go_wp2
  have S' := Sep.shutBk (l := b.locked) (S.front2 (a1 := aRow tInt _ b.own _ F6) (a2 := aRow tInt _ b.notes _ F10)) h13
  (refine Sep.ret1 S rfl rfl memA Try.underlying26 rfl ts26 rfl ?_)
  exact S'.retOwn List.mem_cons_self
theorem Sep.shapeSt {F0 : List Nat} {w0 w : World} {L : List Asrt} {s : St} {cs : List Value} {F : List Nat} (S : Sep F0 w0 L w) (h : aOwn tSt s cs F ∈ L) : ∃ A1 c1 A2 c2 A3 c3 A4 c4, cs = [.int .i64 s.way, .int .i64 s.vsn, .int .i64 s.want, .slice A1 s.sent.length c1, .slice A2 s.live.length c2, .slice A3 s.back.length c3, .slice A4 s.got.length c4] := by
  obtain ⟨v1, v2, v3, v4, F1, F2, F3, F4, e, _, h1, h2, h3, h4, _⟩ := S.own h
  obtain ⟨A1, c1, rfl⟩ := h1.row.val
  obtain ⟨A2, c2, rfl⟩ := h2.row.val
  obtain ⟨A3, c3, rfl⟩ := h3.row.val
  obtain ⟨A4, c4, rfl⟩ := h4.row.val
  exact ⟨A1, c1, A2, c2, A3, c3, A4, c4, e⟩
set_option maxHeartbeats 6400000 in
theorem l12Copy_c (w : World) (c : Ch) (c1 : List Value) (h1 : tCh.rd w c c1) (hc : okCh c = true) : Calls Try.prog 103 #[.agg c1.toArray] w (RetOwn tCh c w) := by
  obtain ⟨b1, b2, s1, s2, s3, s4, v1, v2, rfl, h11, h12, h13, h14, h15⟩ := h1
  obtain ⟨A1, m1, rfl⟩ := h13.val
  obtain ⟨A2, m2, rfl⟩ := h14.val
  obtain ⟨q1, q2, q3, q4, q5, q6⟩ := okCh_parts hc
  have HB := Lib.hid (show c.bank.own.length ≤ 2097152 ∧ c.bank.notes.length ≤ 2097152 by have := okBk_len q2; omega)
  have HS := Lib.hid (okSt_small q3)
  have HK := Lib.hid (show c.knows.length ≤ 2097152 by have := knOk_len q6; omega)
  clear q1 q5
  have S := Sep.start w
  go_enter Try.func103, Try.ntmps103
  go_wp2_with (first
    | ((with_reducible refine gate_dst (N := 1) rfl ?_); refine aBx S ?_; clear S; intro gP w9 z9 S)
    | ((with_reducible refine gate_dst (N := 2) rfl ?_); refine aAl S ?_; clear S; intro gR w9 z9 S)
    | ((with_reducible refine gate_dst (N := 5) rfl ?_); refine aLit0 tSt (e := 30) S ?_; clear S; intro g5 w9 z9 S)
    | ((with_reducible refine gate_box rfl ?_); refine aBx S ?_; clear S; intro g9 w9 z9 S) | ((with_reducible refine gate_alloc rfl ?_); refine aAl S ?_; clear S; intro g9 w9 z9 S) | ((with_reducible refine gate_load rfl ?_); first | refine aLd S ?_ | refine aPt S ?_ | refine aL1 S ?_) | ((with_reducible refine gate_st rfl ?_); (first | refine aS1 S ?_ | refine aSt S ?_ | refine aSp S ?_); clear S; intro w9 S))
  go_loopw [3, 4] (fun v i wr => ∃ (k : Nat) (A : Option Addr) (n : Nat) (F : List Nat), k ≤ c.past.length ∧ i = .int .i64 k ∧ v = .slice A k n ∧ Sep [] w [aRow tSt 30 (c.past.take k) (.slice A k n) F, aBox gP 33 13 _, aBox gR 33 13 _] wr) (fun _ i _ => c.past.length - (intOf i).toNat)
  case atStart =>
    have S' := (Sep.only3 (a1 := aRow tSt _ [] _ _) (a2 := aBox gP _ _ _) (a3 := aBox gR _ _ _) S delA delA delA)
    exact ⟨0, some ⟨g5, 0, none⟩, 0, [g5], Nat.zero_le _, rfl, rfl, S'⟩
  case round =>
    clear S
    obtain ⟨k, A, n, F, hk, rfl, rfl, S⟩ := hrel
    by_cases hlt : k < c.past.length
    · obtain ⟨ad1, cs1, rfl, r1, g1⟩ := cellsAt_of_row h13 k hlt
      have G1 := Lib.hid (fun (W : World) (f : Fr w W) => g1.fr f)
      have Q1 := Lib.hid (fun (W : World) (f : Fr w W) => tSt.fr f r1)
      have N1 := Lib.hid (show cs1.length = 7 from tSt.len r1)
      have OK := Lib.hid (okSt_small (past_ok hc k hlt))
      have TK := Lib.hid (show c.past.take k ++ [c.past[k]] = c.past.take (k + 1) from (List.take_succ_eq_append_getElem hlt).symm)
      have EL := Lib.hid (show (c.past.take (k + 1)).length = k + 1 by simp; omega)
      have TL := Lib.hid (show (c.past.take k).length + 1 ≤ 2097152 by simp; omega)
      have p0 : (0 : Int) ≤ (k : Int) := Int.natCast_nonneg _
      have p1 : (k : Int) < (c.past.length : Int) := by omega
      clear g1 r1
      go_wp2_with (first
        | ((with_reducible refine gate_dst (N := 18) rfl ?_); refine aRw (G1.out _ S.frame) ?_ (hn := N1.out))
        | (go_at_call 94; (with_reducible refine (l3Copy_c _ _ _ (Q1.out _ S.frame) OK.out).mono ?_); rintro e w9 ⟨cs9, F9, rfl, h9, n9, b9, f9⟩; replace S := S.new (aOwn tSt _ cs9 F9) h9 n9 b9 f9; clear h9 n9 b9 f9; obtain ⟨A6, n6, A7, n7, A8, n8, A9, n9, rfl⟩ := S.shapeSt List.mem_cons_self)
        | ((with_reducible refine gate_dst (N := 20) rfl ?_); refine aLit1 (d := tSt) 30 S delA ?_; clear S; intro g20 w9 z9 S)
        | ((with_reducible refine gate_dst (N := 21) rfl ?_); go_loud (refine aApO (d := tSt) (xs := c.past.take k) (ys := [c.past[k]]) S delA delA (.inl (by decide)) TL.out ?_ (hus := TK.out)); clear S; intro A21 c21 F21 w9 S)
        | ((with_reducible refine gate_box rfl ?_); refine aBx S ?_; clear S; intro g9 w9 z9 S) | ((with_reducible refine gate_alloc rfl ?_); refine aAl S ?_; clear S; intro g9 w9 z9 S) | ((with_reducible refine gate_load rfl ?_); first | refine aLd S ?_ | refine aPt S ?_ | refine aL1 S ?_) | ((with_reducible refine gate_st rfl ?_); (first | refine aS1 S ?_ | refine aSt S ?_ | refine aSp S ?_); clear S; intro w9 S))
      go_roundw
      case rel =>
        rw [EL.out] at S
        exact ⟨k + 1, A21, c21, F21, by omega, by go_num, by first | rfl | rw [Nat.min_eq_left (by omega)], S⟩
      case measure => simp [intOf]; omega
    · obtain rfl : k = c.past.length := by omega
      rw [List.take_length] at S
      go_wp2_with (first | ((with_reducible refine gate_box rfl ?_); refine aBx S ?_; clear S; intro g9 w9 z9 S) | ((with_reducible refine gate_alloc rfl ?_); refine aAl S ?_; clear S; intro g9 w9 z9 S) | ((with_reducible refine gate_load rfl ?_); first | refine aLd S ?_ | refine aPt S ?_ | refine aL1 S ?_) | ((with_reducible refine gate_st rfl ?_); (first | refine aS1 S ?_ | refine aSt S ?_ | refine aSp S ?_); clear S; intro w9 S))
      have S0 := (Sep.only1 (a1 := aBox gP _ _ _) S delA)
      refine wp_region_noPanic ?_
      refine wp_region_held_drew (S := Sep _ _ _) (by kernel_rfl) S0.drew (fun _ => ?_)
      replace S := S.drew
      clear S0
      refine tk 0 ?_
      (try simp only [Act.put, List.setIfInBounds_toArray, List.set_cons_zero, List.set_cons_succ])
      refine tk 1 ?_
      (try simp only [Act.put, List.setIfInBounds_toArray, List.set_cons_zero, List.set_cons_succ])
      refine tk 2 ?_
      (try simp only [Act.put, List.setIfInBounds_toArray, List.set_cons_zero, List.set_cons_succ])
      refine tk 3 ?_
      (try simp only [Act.put, List.setIfInBounds_toArray, List.set_cons_zero, List.set_cons_succ])
      refine tk 5 ?_
      (try simp only [Act.put, List.setIfInBounds_toArray, List.set_cons_zero, List.set_cons_succ])
      refine tk 6 ?_
      (try simp only [Act.put, List.setIfInBounds_toArray, List.set_cons_zero, List.set_cons_succ])
      refine tk 8 ?_
      (try simp only [Act.put, List.setIfInBounds_toArray, List.set_cons_zero, List.set_cons_succ])
      refine tk 10 ?_
      (try simp only [Act.put, List.setIfInBounds_toArray, List.set_cons_zero, List.set_cons_succ])
      refine tk 11 ?_
      (try simp only [Act.put, List.setIfInBounds_toArray, List.set_cons_zero, List.set_cons_succ])
      refine rdys [4, 9] ?_
      refine rdc 4 (fun K hK => ?_) ?_
      · go_simp; (skip; go_at_call 129; (with_reducible refine (l1Copy_d _ c.bank _ (tBk.fr S.frame h11) HB.out).mono ?_); rintro e w9 ⟨cs9, F9, rfl, h9, n9, b9, f9⟩; replace S := S.new (aOwn tBk _ cs9 F9) h9 n9 b9 f9; clear h9 n9 b9 f9; obtain ⟨x1, x2, Y1, Y2, rfl, rfl, I9, S9⟩ := S.openBk; replace S := S9; clear S9)
        (first | refine hK.out _ _ (S.sub subA) (fun _ => ?_) | (go_wp2_with fail; refine hK.out _ _ (S.sub subA) (fun _ => ?_)))
        clear hK K
        (try simp only [Act.put, List.setIfInBounds_toArray, List.set_cons_zero, List.set_cons_succ])
        refine rdys [7, 9] ?_
        refine rdc 7 (fun K hK => ?_) ?_
        · go_simp; (skip; go_at_call 94; (with_reducible refine (l3Copy_c _ c.st _ (tSt.fr S.frame h12) HS.out).mono ?_); rintro e w9 ⟨cs9, F9, rfl, h9, n9, b9, f9⟩; replace S := S.new (aOwn tSt _ cs9 F9) h9 n9 b9 f9; clear h9 n9 b9 f9; obtain ⟨A6, n6, A7, n7, A8, n8, A9, n9, Z6, Z7, Z8, Z9, rfl, rfl, J6, S9⟩ := S.openSt; replace S := S9; clear S9)
          (first | refine hK.out _ _ (S.sub subA) (fun _ => ?_) | (go_wp2_with fail; refine hK.out _ _ (S.sub subA) (fun _ => ?_)))
          clear hK K
          (try simp only [Act.put, List.setIfInBounds_toArray, List.set_cons_zero, List.set_cons_succ])
          refine rdy1 9 (fun K hK => ?_)
          refine rgLit0 tInt (e := 3) S ?_; clear S; intro g31 w9 z9 S
          (first | refine hK.out _ _ (S.sub subA) (fun _ => ?_) | (go_wp2_with fail; refine hK.out _ _ (S.sub subA) (fun _ => ?_)))
          clear hK K
          (try simp only [Act.put, List.setIfInBounds_toArray, List.set_cons_zero, List.set_cons_succ])
          refine rdy1 12 (fun K hK => ?_)
          refine rgApR (v := .slice (some ⟨g31, 0, none⟩) 0 0) tInt_plain S delA (h14.fr S.frame) (.inr ⟨_, _, _, rfl⟩) (by simpa using HK.out) ?_; clear S; intro A34 c34 F34 w9 S
          (first | refine hK.out _ _ (S.sub subA) (fun _ => ?_) | (go_wp2_with fail; refine hK.out _ _ (S.sub subA) (fun _ => ?_)))
          clear hK K
          (try simp only [Act.put, List.setIfInBounds_toArray, List.set_cons_zero, List.set_cons_succ])
          refine tk 13 ?_
          (try simp only [Act.put, List.setIfInBounds_toArray, List.set_cons_zero, List.set_cons_succ])
          refine rdy1 14 (fun K hK => ?_)
          (first | refine rgS1 S ?_ | refine rgSt S ?_ | refine rgSp S ?_); clear S; intro w9 S
          (first | refine hK.out _ _ (S.sub subA) (fun _ => ?_) | (go_wp2_with fail; refine hK.out _ _ (S.sub subA) (fun _ => ?_)))
          clear hK K
          (try simp only [Act.put, List.setIfInBounds_toArray, List.set_cons_zero, List.set_cons_succ])
          refine wpAnyH_done (by kernel_rfl) ?_ _
          refine NoPanic.normal ?_
          go_wp2
          have S' := S.allCh c I9 J6 h15
          (refine Sep.ret1 S rfl rfl memA Try.underlying33 rfl ts33 rfl ?_)
          exact S'.retOwn List.mem_cons_self
        refine rdc 9 (fun K hK => ?_) AllReadyH.nil
        refine rgLit0 tInt (e := 3) S ?_; clear S; intro g31 w9 z9 S
        (first | refine hK.out _ _ (S.sub subA) (fun _ => ?_) | (go_wp2_with fail; refine hK.out _ _ (S.sub subA) (fun _ => ?_)))
        clear hK K
        (try simp only [Act.put, List.setIfInBounds_toArray, List.set_cons_zero, List.set_cons_succ])
        refine rdy1 7 (fun K hK => ?_)
        go_simp; (skip; go_at_call 94; (with_reducible refine (l3Copy_c _ c.st _ (tSt.fr S.frame h12) HS.out).mono ?_); rintro e w9 ⟨cs9, F9, rfl, h9, n9, b9, f9⟩; replace S := S.new (aOwn tSt _ cs9 F9) h9 n9 b9 f9; clear h9 n9 b9 f9; obtain ⟨A6, n6, A7, n7, A8, n8, A9, n9, Z6, Z7, Z8, Z9, rfl, rfl, J6, S9⟩ := S.openSt; replace S := S9; clear S9)
        (first | refine hK.out _ _ (S.sub subA) (fun _ => ?_) | (go_wp2_with fail; refine hK.out _ _ (S.sub subA) (fun _ => ?_)))
        clear hK K
        (try simp only [Act.put, List.setIfInBounds_toArray, List.set_cons_zero, List.set_cons_succ])
        refine rdy1 12 (fun K hK => ?_)
        refine rgApR (v := .slice (some ⟨g31, 0, none⟩) 0 0) tInt_plain S delA (h14.fr S.frame) (.inr ⟨_, _, _, rfl⟩) (by simpa using HK.out) ?_; clear S; intro A34 c34 F34 w9 S
        (first | refine hK.out _ _ (S.sub subA) (fun _ => ?_) | (go_wp2_with fail; refine hK.out _ _ (S.sub subA) (fun _ => ?_)))
        clear hK K
        (try simp only [Act.put, List.setIfInBounds_toArray, List.set_cons_zero, List.set_cons_succ])
        refine tk 13 ?_
        (try simp only [Act.put, List.setIfInBounds_toArray, List.set_cons_zero, List.set_cons_succ])
        refine rdy1 14 (fun K hK => ?_)
        (first | refine rgS1 S ?_ | refine rgSt S ?_ | refine rgSp S ?_); clear S; intro w9 S
        (first | refine hK.out _ _ (S.sub subA) (fun _ => ?_) | (go_wp2_with fail; refine hK.out _ _ (S.sub subA) (fun _ => ?_)))
        clear hK K
        (try simp only [Act.put, List.setIfInBounds_toArray, List.set_cons_zero, List.set_cons_succ])
        refine wpAnyH_done (by kernel_rfl) ?_ _
        refine NoPanic.normal ?_
        go_wp2
        have S' := S.allCh c I9 J6 h15
        (refine Sep.ret1 S rfl rfl memA Try.underlying33 rfl ts33 rfl ?_)
        exact S'.retOwn List.mem_cons_self
      refine rdc 9 (fun K hK => ?_) AllReadyH.nil
      refine rgLit0 tInt (e := 3) S ?_; clear S; intro g31 w9 z9 S
      (first | refine hK.out _ _ (S.sub subA) (fun _ => ?_) | (go_wp2_with fail; refine hK.out _ _ (S.sub subA) (fun _ => ?_)))
      clear hK K
      (try simp only [Act.put, List.setIfInBounds_toArray, List.set_cons_zero, List.set_cons_succ])
      refine rdy1 4 (fun K hK => ?_)
      go_simp; (skip; go_at_call 129; (with_reducible refine (l1Copy_d _ c.bank _ (tBk.fr S.frame h11) HB.out).mono ?_); rintro e w9 ⟨cs9, F9, rfl, h9, n9, b9, f9⟩; replace S := S.new (aOwn tBk _ cs9 F9) h9 n9 b9 f9; clear h9 n9 b9 f9; obtain ⟨x1, x2, Y1, Y2, rfl, rfl, I9, S9⟩ := S.openBk; replace S := S9; clear S9)
      (first | refine hK.out _ _ (S.sub subA) (fun _ => ?_) | (go_wp2_with fail; refine hK.out _ _ (S.sub subA) (fun _ => ?_)))
      clear hK K
      (try simp only [Act.put, List.setIfInBounds_toArray, List.set_cons_zero, List.set_cons_succ])
      refine rdy1 7 (fun K hK => ?_)
      go_simp; (skip; go_at_call 94; (with_reducible refine (l3Copy_c _ c.st _ (tSt.fr S.frame h12) HS.out).mono ?_); rintro e w9 ⟨cs9, F9, rfl, h9, n9, b9, f9⟩; replace S := S.new (aOwn tSt _ cs9 F9) h9 n9 b9 f9; clear h9 n9 b9 f9; obtain ⟨A6, n6, A7, n7, A8, n8, A9, n9, Z6, Z7, Z8, Z9, rfl, rfl, J6, S9⟩ := S.openSt; replace S := S9; clear S9)
      (first | refine hK.out _ _ (S.sub subA) (fun _ => ?_) | (go_wp2_with fail; refine hK.out _ _ (S.sub subA) (fun _ => ?_)))
      clear hK K
      (try simp only [Act.put, List.setIfInBounds_toArray, List.set_cons_zero, List.set_cons_succ])
      refine rdy1 12 (fun K hK => ?_)
      refine rgApR (v := .slice (some ⟨g31, 0, none⟩) 0 0) tInt_plain S delA (h14.fr S.frame) (.inr ⟨_, _, _, rfl⟩) (by simpa using HK.out) ?_; clear S; intro A34 c34 F34 w9 S
      (first | refine hK.out _ _ (S.sub subA) (fun _ => ?_) | (go_wp2_with fail; refine hK.out _ _ (S.sub subA) (fun _ => ?_)))
      clear hK K
      (try simp only [Act.put, List.setIfInBounds_toArray, List.set_cons_zero, List.set_cons_succ])
      refine tk 13 ?_
      (try simp only [Act.put, List.setIfInBounds_toArray, List.set_cons_zero, List.set_cons_succ])
      refine rdy1 14 (fun K hK => ?_)
      (first | refine rgS1 S ?_ | refine rgSt S ?_ | refine rgSp S ?_); clear S; intro w9 S
      (first | refine hK.out _ _ (S.sub subA) (fun _ => ?_) | (go_wp2_with fail; refine hK.out _ _ (S.sub subA) (fun _ => ?_)))
      clear hK K
      (try simp only [Act.put, List.setIfInBounds_toArray, List.set_cons_zero, List.set_cons_succ])
      refine wpAnyH_done (by kernel_rfl) ?_ _
      refine NoPanic.normal ?_
      go_wp2
      have S' := S.allCh c I9 J6 h15
      (refine Sep.ret1 S rfl rfl memA Try.underlying33 rfl ts33 rfl ?_)
      exact S'.retOwn List.mem_cons_self
end Go.Proofs.Ytapdcgjccckjeaa
