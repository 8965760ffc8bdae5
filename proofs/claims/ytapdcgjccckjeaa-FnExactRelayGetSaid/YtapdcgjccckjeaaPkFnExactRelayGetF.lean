/- The texts ChCopy, LnkE, ChNew, ChBlock, Append, BankCopyD, BankMoveD, BankAwayD, SpecMoveD, SpecAwayD, MapI, LedgerD, LedgerOfD, ImplMoveD. -/
import Derived.Test.YtapdcgjccckjeaaPkFnExactRelayGetE
import Derived.Deep.RegionLawGrows
import Derived.Deep.RegionHeldLaw
import Derived.Carry
namespace Go.Proofs.Ytapdcgjccckjeaa
set_option maxRecDepth 100000
set_option linter.unusedVariables false
set_option linter.unusedSimpArgs false
open Go.RowKit
set_option maxHeartbeats 6400000 in
theorem l1Copy_d (w : World) (b : Bk) (c1 : List Value) (h1 : tBk.rd w b c1) (hb : b.own.length ≤ 2097152 ∧ b.notes.length ≤ 2097152) : Calls Try.prog 129 #[.agg c1.toArray] w (RetOwn tBk b w) := by
  obtain ⟨v1, v2, rfl, h11, h12, h13⟩ := h1
  obtain ⟨b1, b2⟩ := hb
  obtain ⟨A1, m1, rfl⟩ := h11.val
  obtain ⟨A2, m2, rfl⟩ := h12.val
  have S := Sep.start w
  go_enter Try.func129, Try.ntmps129
  go_wp2_with (first | ((with_reducible refine gate_dst (N := 1) rfl ?_); refine aBx S ?_; clear S; intro gP w9 z9 S) | ((with_reducible refine gate_dst (N := 2) rfl ?_); refine aAl S ?_; clear S; intro gR w9 z9 S))
  have S0 := (Sep.only1 (a1 := aBox gP _ _ _) S delA)
  refine wp_region_noPanic ?_
  refine wp_region_held_drew (S := Sep _ _ _) (by kernel_rfl) S0.drew (fun _ => ?_)
  replace S := S.drew
  clear S0
  refine tk 1 ?_
  (try simp only [Act.put, List.setIfInBounds_toArray, List.set_cons_zero, List.set_cons_succ])
  refine tk 2 ?_
  (try simp only [Act.put, List.setIfInBounds_toArray, List.set_cons_zero, List.set_cons_succ])
  refine tk 5 ?_
  (try simp only [Act.put, List.setIfInBounds_toArray, List.set_cons_zero, List.set_cons_succ])
  refine tk 6 ?_
  (try simp only [Act.put, List.setIfInBounds_toArray, List.set_cons_zero, List.set_cons_succ])
  refine tk 8 ?_
  (try simp only [Act.put, List.setIfInBounds_toArray, List.set_cons_zero, List.set_cons_succ])
  refine tk 9 ?_
  (try simp only [Act.put, List.setIfInBounds_toArray, List.set_cons_zero, List.set_cons_succ])
  refine rdys [0, 4] ?_
  refine rdc 0 (fun K hK => ?_) ?_
  · refine rgLit0 tInt (e := 3) S ?_; clear S; intro g3 w9 z9 S
    (first | refine hK.out _ _ (S.sub subA) (fun _ => ?_) | (go_wp2_with fail; refine hK.out _ _ (S.sub subA) (fun _ => ?_)))
    clear hK K
    (try simp only [Act.put, List.setIfInBounds_toArray, List.set_cons_zero, List.set_cons_succ])
    refine rdys [3, 4] ?_
    refine rdc 3 (fun K hK => ?_) ?_
    · refine rgApR (v := .slice (some ⟨g3, 0, none⟩) 0 0) tInt_plain S delA (h11.fr S.frame) (.inr ⟨_, _, _, rfl⟩) (by simpa using b1) ?_; clear S; intro A6 c6 F6 w9 S
      (first | refine hK.out _ _ (S.sub subA) (fun _ => ?_) | (go_wp2_with fail; refine hK.out _ _ (S.sub subA) (fun _ => ?_)))
      clear hK K
      (try simp only [Act.put, List.setIfInBounds_toArray, List.set_cons_zero, List.set_cons_succ])
      refine rdy1 4 (fun K hK => ?_)
      refine rgLit0 tInt (e := 3) S ?_; clear S; intro g7 w9 z9 S
      (first | refine hK.out _ _ (S.sub subA) (fun _ => ?_) | (go_wp2_with fail; refine hK.out _ _ (S.sub subA) (fun _ => ?_)))
      clear hK K
      (try simp only [Act.put, List.setIfInBounds_toArray, List.set_cons_zero, List.set_cons_succ])
      refine rdy1 7 (fun K hK => ?_)
      refine rgApR (v := .slice (some ⟨g7, 0, none⟩) 0 0) tInt_plain S delA (h12.fr S.frame) (.inr ⟨_, _, _, rfl⟩) (by simpa using b2) ?_; clear S; intro A10 c10 F10 w9 S
      (first | refine hK.out _ _ (S.sub subA) (fun _ => ?_) | (go_wp2_with fail; refine hK.out _ _ (S.sub subA) (fun _ => ?_)))
      clear hK K
      (try simp only [Act.put, List.setIfInBounds_toArray, List.set_cons_zero, List.set_cons_succ])
      refine tk 10 ?_
      (try simp only [Act.put, List.setIfInBounds_toArray, List.set_cons_zero, List.set_cons_succ])
      refine rdy1 11 (fun K hK => ?_)
      (first | refine rgS1 S ?_ | refine rgSt S ?_ | refine rgSp S ?_); clear S; intro w9 S
      (first | refine hK.out _ _ (S.sub subA) (fun _ => ?_) | (go_wp2_with fail; refine hK.out _ _ (S.sub subA) (fun _ => ?_)))
      clear hK K
      (try simp only [Act.put, List.setIfInBounds_toArray, List.set_cons_zero, List.set_cons_succ])
      refine wpAnyH_done (by kernel_rfl) ?_ _
      refine NoPanic.normal ?_
      go_wp2
      have S' := Sep.shutBk (l := b.locked) (S.front2 (a1 := aRow tInt _ b.own _ F6) (a2 := aRow tInt _ b.notes _ F10)) h13
      (refine Sep.ret1 S rfl rfl memA Try.underlying26 rfl ts26 rfl ?_)
      exact S'.retOwn List.mem_cons_self
    refine rdc 4 (fun K hK => ?_) AllReadyH.nil
    refine rgLit0 tInt (e := 3) S ?_; clear S; intro g7 w9 z9 S
    (first | refine hK.out _ _ (S.sub subA) (fun _ => ?_) | (go_wp2_with fail; refine hK.out _ _ (S.sub subA) (fun _ => ?_)))
    clear hK K
    (try simp only [Act.put, List.setIfInBounds_toArray, List.set_cons_zero, List.set_cons_succ])
    refine rdy1 3 (fun K hK => ?_)
    refine rgApR (v := .slice (some ⟨g3, 0, none⟩) 0 0) tInt_plain S delA (h11.fr S.frame) (.inr ⟨_, _, _, rfl⟩) (by simpa using b1) ?_; clear S; intro A6 c6 F6 w9 S
    (first | refine hK.out _ _ (S.sub subA) (fun _ => ?_) | (go_wp2_with fail; refine hK.out _ _ (S.sub subA) (fun _ => ?_)))
    clear hK K
    (try simp only [Act.put, List.setIfInBounds_toArray, List.set_cons_zero, List.set_cons_succ])
    refine rdy1 7 (fun K hK => ?_)
    refine rgApR (v := .slice (some ⟨g7, 0, none⟩) 0 0) tInt_plain S delA (h12.fr S.frame) (.inr ⟨_, _, _, rfl⟩) (by simpa using b2) ?_; clear S; intro A10 c10 F10 w9 S
    (first | refine hK.out _ _ (S.sub subA) (fun _ => ?_) | (go_wp2_with fail; refine hK.out _ _ (S.sub subA) (fun _ => ?_)))
    clear hK K
    (try simp only [Act.put, List.setIfInBounds_toArray, List.set_cons_zero, List.set_cons_succ])
    refine tk 10 ?_
    (try simp only [Act.put, List.setIfInBounds_toArray, List.set_cons_zero, List.set_cons_succ])
    refine rdy1 11 (fun K hK => ?_)
    (first | refine rgS1 S ?_ | refine rgSt S ?_ | refine rgSp S ?_); clear S; intro w9 S
    (first | refine hK.out _ _ (S.sub subA) (fun _ => ?_) | (go_wp2_with fail; refine hK.out _ _ (S.sub subA) (fun _ => ?_)))
    clear hK K
    (try simp only [Act.put, List.setIfInBounds_toArray, List.set_cons_zero, List.set_cons_succ])
    refine wpAnyH_done (by kernel_rfl) ?_ _
    refine NoPanic.normal ?_
    go_wp2
    have S' := Sep.shutBk (l := b.locked) (S.front2 (a1 := aRow tInt _ b.own _ F6) (a2 := aRow tInt _ b.notes _ F10)) h13
    (refine Sep.ret1 S rfl rfl memA Try.underlying26 rfl ts26 rfl ?_)
    exact S'.retOwn List.mem_cons_self
  refine rdc 4 (fun K hK => ?_) AllReadyH.nil
  refine rgLit0 tInt (e := 3) S ?_; clear S; intro g7 w9 z9 S
  (first | refine hK.out _ _ (S.sub subA) (fun _ => ?_) | (go_wp2_with fail; refine hK.out _ _ (S.sub subA) (fun _ => ?_)))
  clear hK K
  (try simp only [Act.put, List.setIfInBounds_toArray, List.set_cons_zero, List.set_cons_succ])
  refine rdy1 0 (fun K hK => ?_)
  refine rgLit0 tInt (e := 3) S ?_; clear S; intro g3 w9 z9 S
  (first | refine hK.out _ _ (S.sub subA) (fun _ => ?_) | (go_wp2_with fail; refine hK.out _ _ (S.sub subA) (fun _ => ?_)))
  clear hK K
  (try simp only [Act.put, List.setIfInBounds_toArray, List.set_cons_zero, List.set_cons_succ])
  refine rdy1 3 (fun K hK => ?_)
  refine rgApR (v := .slice (some ⟨g3, 0, none⟩) 0 0) tInt_plain S delA (h11.fr S.frame) (.inr ⟨_, _, _, rfl⟩) (by simpa using b1) ?_; clear S; intro A6 c6 F6 w9 S
  (first | refine hK.out _ _ (S.sub subA) (fun _ => ?_) | (go_wp2_with fail; refine hK.out _ _ (S.sub subA) (fun _ => ?_)))
  clear hK K
  (try simp only [Act.put, List.setIfInBounds_toArray, List.set_cons_zero, List.set_cons_succ])
  refine rdy1 7 (fun K hK => ?_)
  refine rgApR (v := .slice (some ⟨g7, 0, none⟩) 0 0) tInt_plain S delA (h12.fr S.frame) (.inr ⟨_, _, _, rfl⟩) (by simpa using b2) ?_; clear S; intro A10 c10 F10 w9 S
  (first | refine hK.out _ _ (S.sub subA) (fun _ => ?_) | (go_wp2_with fail; refine hK.out _ _ (S.sub subA) (fun _ => ?_)))
  clear hK K
  (try simp only [Act.put, List.setIfInBounds_toArray, List.set_cons_zero, List.set_cons_succ])
  refine tk 10 ?_
  (try simp only [Act.put, List.setIfInBounds_toArray, List.set_cons_zero, List.set_cons_succ])
  refine rdy1 11 (fun K hK => ?_)
  (first | refine rgS1 S ?_ | refine rgSt S ?_ | refine rgSp S ?_); clear S; intro w9 S
  (first | refine hK.out _ _ (S.sub subA) (fun _ => ?_) | (go_wp2_with fail; refine hK.out _ _ (S.sub subA) (fun _ => ?_)))
  clear hK K
  (try simp only [Act.put, List.setIfInBounds_toArray, List.set_cons_zero, List.set_cons_succ])
  refine wpAnyH_done (by kernel_rfl) ?_ _
  refine NoPanic.normal ?_
  go_wp2
  have S' := Sep.shutBk (l := b.locked) (S.front2 (a1 := aRow tInt _ b.own _ F6) (a2 := aRow tInt _ b.notes _ F10)) h13
  (refine Sep.ret1 S rfl rfl memA Try.underlying26 rfl ts26 rfl ?_)
  exact S'.retOwn List.mem_cons_self
theorem Sep.shapeSt {F0 : List Nat} {w0 w : World} {L : List Asrt} {s : St} {cs : List Value} {F : List Nat} (S : Sep F0 w0 L w) (h : aOwn tSt s cs F ∈ L) : ∃ A1 c1 A2 c2 A3 c3 A4 c4, cs = [.int .i64 s.way, .int .i64 s.vsn, .int .i64 s.want, .slice A1 s.sent.length c1, .slice A2 s.live.length c2, .slice A3 s.back.length c3, .slice A4 s.got.length c4] := by
  obtain ⟨v1, v2, v3, v4, F1, F2, F3, F4, e, _, h1, h2, h3, h4, _⟩ := S.own h
  obtain ⟨A1, c1, rfl⟩ := h1.row.val
  obtain ⟨A2, c2, rfl⟩ := h2.row.val
  obtain ⟨A3, c3, rfl⟩ := h3.row.val
  obtain ⟨A4, c4, rfl⟩ := h4.row.val
  exact ⟨A1, c1, A2, c2, A3, c3, A4, c4, e⟩
set_option maxHeartbeats 6400000 in
theorem l12Copy_c (w : World) (c : Ch) (c1 : List Value) (h1 : tCh.rd w c c1) (hc : okCh c = true) : Calls Try.prog 103 #[.agg c1.toArray] w (RetOwn tCh c w) := by
  obtain ⟨b1, b2, s1, s2, s3, s4, v1, v2, rfl, h11, h12, h13, h14, h15⟩ := h1
  obtain ⟨A1, m1, rfl⟩ := h13.val
  obtain ⟨A2, m2, rfl⟩ := h14.val
  obtain ⟨q1, q2, q3, q4, q5, q6⟩ := okCh_parts hc
  have HB := Lib.hid (show c.bank.own.length ≤ 2097152 ∧ c.bank.notes.length ≤ 2097152 by have := okBk_len q2; omega)
  have HS := Lib.hid (okSt_small q3)
  have HK := Lib.hid (show c.knows.length ≤ 2097152 by have := knOk_len q6; omega)
  clear q1 q5
  have S := Sep.start w
  go_enter Try.func103, Try.ntmps103
  go_wp2_with (first
    | ((with_reducible refine gate_dst (N := 1) rfl ?_); refine aBx S ?_; clear S; intro gP w9 z9 S)
    | ((with_reducible refine gate_dst (N := 2) rfl ?_); refine aAl S ?_; clear S; intro gR w9 z9 S)
    | ((with_reducible refine gate_dst (N := 5) rfl ?_); refine aLit0 tSt (e := 30) S ?_; clear S; intro g5 w9 z9 S)
    | ((with_reducible refine gate_box rfl ?_); refine aBx S ?_; clear S; intro g9 w9 z9 S) | ((with_reducible refine gate_alloc rfl ?_); refine aAl S ?_; clear S; intro g9 w9 z9 S) | ((with_reducible refine gate_load rfl ?_); first | refine aLd S ?_ | refine aPt S ?_ | refine aL1 S ?_) | ((with_reducible refine gate_st rfl ?_); (first | refine aS1 S ?_ | refine aSt S ?_ | refine aSp S ?_); clear S; intro w9 S))
  go_loopw [3, 4] (fun v i wr => ∃ (k : Nat) (A : Option Addr) (n : Nat) (F : List Nat), k ≤ c.past.length ∧ i = .int .i64 k ∧ v = .slice A k n ∧ Sep [] w [aRow tSt 30 (c.past.take k) (.slice A k n) F, aBox gP 33 13 _, aBox gR 33 13 _] wr) (fun _ i _ => c.past.length - (intOf i).toNat)
  case atStart =>
    have S' := (Sep.only3 (a1 := aRow tSt _ [] _ _) (a2 := aBox gP _ _ _) (a3 := aBox gR _ _ _) S delA delA delA)
    exact ⟨0, some ⟨g5, 0, none⟩, 0, [g5], Nat.zero_le _, rfl, rfl, S'⟩
  case round =>
    clear S
    obtain ⟨k, A, n, F, hk, rfl, rfl, S⟩ := hrel
    by_cases hlt : k < c.past.length
    · obtain ⟨ad1, cs1, rfl, r1, g1⟩ := cellsAt_of_row h13 k hlt
      have G1 := Lib.hid (fun (W : World) (f : Fr w W) => g1.fr f)
      have Q1 := Lib.hid (fun (W : World) (f : Fr w W) => tSt.fr f r1)
      have N1 := Lib.hid (show cs1.length = 7 from tSt.len r1)
      have OK := Lib.hid (okSt_small (past_ok hc k hlt))
      have TK := Lib.hid (show c.past.take k ++ [c.past[k]] = c.past.take (k + 1) from (List.take_succ_eq_append_getElem hlt).symm)
      have EL := Lib.hid (show (c.past.take (k + 1)).length = k + 1 by simp; omega)
      have TL := Lib.hid (show (c.past.take k).length + 1 ≤ 2097152 by simp; omega)
      have p0 : (0 : Int) ≤ (k : Int) := Int.natCast_nonneg _
      have p1 : (k : Int) < (c.past.length : Int) := by omega
      clear g1 r1
      go_wp2_with (first
        | ((with_reducible refine gate_dst (N := 18) rfl ?_); refine aRw (G1.out _ S.frame) ?_ (hn := N1.out))
        | (go_at_call 94; (with_reducible refine (l3Copy_c _ _ _ (Q1.out _ S.frame) OK.out).mono ?_); rintro e w9 ⟨cs9, F9, rfl, h9, n9, b9, f9⟩; replace S := S.new (aOwn tSt _ cs9 F9) h9 n9 b9 f9; clear h9 n9 b9 f9; obtain ⟨A6, n6, A7, n7, A8, n8, A9, n9, rfl⟩ := S.shapeSt List.mem_cons_self)
        | ((with_reducible refine gate_dst (N := 20) rfl ?_); refine aLit1 (d := tSt) 30 S delA ?_; clear S; intro g20 w9 z9 S)
        | ((with_reducible refine gate_dst (N := 21) rfl ?_); go_loud (refine aApO (d := tSt) (xs := c.past.take k) (ys := [c.past[k]]) S delA delA (.inl (by decide)) TL.out ?_ (hus := TK.out)); clear S; intro A21 c21 F21 w9 S)
        | ((with_reducible refine gate_box rfl ?_); refine aBx S ?_; clear S; intro g9 w9 z9 S) | ((with_reducible refine gate_alloc rfl ?_); refine aAl S ?_; clear S; intro g9 w9 z9 S) | ((with_reducible refine gate_load rfl ?_); first | refine aLd S ?_ | refine aPt S ?_ | refine aL1 S ?_) | ((with_reducible refine gate_st rfl ?_); (first | refine aS1 S ?_ | refine aSt S ?_ | refine aSp S ?_); clear S; intro w9 S))
      go_roundw
      case rel =>
        rw [EL.out] at S
        exact ⟨k + 1, A21, c21, F21, by omega, by go_num, by first | rfl | rw [Nat.min_eq_left (by omega)], S⟩
      case measure => simp [intOf]; omega
    · obtain rfl : k = c.past.length := by omega
      rw [List.take_length] at S
      go_wp2_with (first | ((with_reducible refine gate_box rfl ?_); refine aBx S ?_; clear S; intro g9 w9 z9 S) | ((with_reducible refine gate_alloc rfl ?_); refine aAl S ?_; clear S; intro g9 w9 z9 S) | ((with_reducible refine gate_load rfl ?_); first | refine aLd S ?_ | refine aPt S ?_ | refine aL1 S ?_) | ((with_reducible refine gate_st rfl ?_); (first | refine aS1 S ?_ | refine aSt S ?_ | refine aSp S ?_); clear S; intro w9 S))
      have S0 := (Sep.only1 (a1 := aBox gP _ _ _) S delA)
      refine wp_region_noPanic ?_
      refine wp_region_held_drew (S := Sep _ _ _) (by kernel_rfl) S0.drew (fun _ => ?_)
      replace S := S.drew
      clear S0
      refine tk 0 ?_
      (try simp only [Act.put, List.setIfInBounds_toArray, List.set_cons_zero, List.set_cons_succ])
      refine tk 1 ?_
      (try simp only [Act.put, List.setIfInBounds_toArray, List.set_cons_zero, List.set_cons_succ])
      refine tk 2 ?_
      (try simp only [Act.put, List.setIfInBounds_toArray, List.set_cons_zero, List.set_cons_succ])
      refine tk 3 ?_
      (try simp only [Act.put, List.setIfInBounds_toArray, List.set_cons_zero, List.set_cons_succ])
      refine tk 5 ?_
      (try simp only [Act.put, List.setIfInBounds_toArray, List.set_cons_zero, List.set_cons_succ])
      refine tk 6 ?_
      (try simp only [Act.put, List.setIfInBounds_toArray, List.set_cons_zero, List.set_cons_succ])
      refine tk 8 ?_
      (try simp only [Act.put, List.setIfInBounds_toArray, List.set_cons_zero, List.set_cons_succ])
      refine tk 10 ?_
      (try simp only [Act.put, List.setIfInBounds_toArray, List.set_cons_zero, List.set_cons_succ])
      refine tk 11 ?_
      (try simp only [Act.put, List.setIfInBounds_toArray, List.set_cons_zero, List.set_cons_succ])
      refine rdys [4, 9] ?_
      refine rdc 4 (fun K hK => ?_) ?_
      · go_simp; (skip; go_at_call 129; (with_reducible refine (l1Copy_d _ c.bank _ (tBk.fr S.frame h11) HB.out).mono ?_); rintro e w9 ⟨cs9, F9, rfl, h9, n9, b9, f9⟩; replace S := S.new (aOwn tBk _ cs9 F9) h9 n9 b9 f9; clear h9 n9 b9 f9; obtain ⟨x1, x2, Y1, Y2, rfl, rfl, I9, S9⟩ := S.openBk; replace S := S9; clear S9)
        (first | refine hK.out _ _ (S.sub subA) (fun _ => ?_) | (go_wp2_with fail; refine hK.out _ _ (S.sub subA) (fun _ => ?_)))
        clear hK K
        (try simp only [Act.put, List.setIfInBounds_toArray, List.set_cons_zero, List.set_cons_succ])
        refine rdys [7, 9] ?_
        refine rdc 7 (fun K hK => ?_) ?_
        · go_simp; (skip; go_at_call 94; (with_reducible refine (l3Copy_c _ c.st _ (tSt.fr S.frame h12) HS.out).mono ?_); rintro e w9 ⟨cs9, F9, rfl, h9, n9, b9, f9⟩; replace S := S.new (aOwn tSt _ cs9 F9) h9 n9 b9 f9; clear h9 n9 b9 f9; obtain ⟨A6, n6, A7, n7, A8, n8, A9, n9, Z6, Z7, Z8, Z9, rfl, rfl, J6, S9⟩ := S.openSt; replace S := S9; clear S9)
          (first | refine hK.out _ _ (S.sub subA) (fun _ => ?_) | (go_wp2_with fail; refine hK.out _ _ (S.sub subA) (fun _ => ?_)))
          clear hK K
          (try simp only [Act.put, List.setIfInBounds_toArray, List.set_cons_zero, List.set_cons_succ])
          refine rdy1 9 (fun K hK => ?_)
          refine rgLit0 tInt (e := 3) S ?_; clear S; intro g31 w9 z9 S
          (first | refine hK.out _ _ (S.sub subA) (fun _ => ?_) | (go_wp2_with fail; refine hK.out _ _ (S.sub subA) (fun _ => ?_)))
          clear hK K
          (try simp only [Act.put, List.setIfInBounds_toArray, List.set_cons_zero, List.set_cons_succ])
          refine rdy1 12 (fun K hK => ?_)
          refine rgApR (v := .slice (some ⟨g31, 0, none⟩) 0 0) tInt_plain S delA (h14.fr S.frame) (.inr ⟨_, _, _, rfl⟩) (by simpa using HK.out) ?_; clear S; intro A34 c34 F34 w9 S
          (first | refine hK.out _ _ (S.sub subA) (fun _ => ?_) | (go_wp2_with fail; refine hK.out _ _ (S.sub subA) (fun _ => ?_)))
          clear hK K
          (try simp only [Act.put, List.setIfInBounds_toArray, List.set_cons_zero, List.set_cons_succ])
          refine tk 13 ?_
          (try simp only [Act.put, List.setIfInBounds_toArray, List.set_cons_zero, List.set_cons_succ])
          refine rdy1 14 (fun K hK => ?_)
          (first | refine rgS1 S ?_ | refine rgSt S ?_ | refine rgSp S ?_); clear S; intro w9 S
          (first | refine hK.out _ _ (S.sub subA) (fun _ => ?_) | (go_wp2_with fail; refine hK.out _ _ (S.sub subA) (fun _ => ?_)))
          clear hK K
          (try simp only [Act.put, List.setIfInBounds_toArray, List.set_cons_zero, List.set_cons_succ])
          refine wpAnyH_done (by kernel_rfl) ?_ _
          refine NoPanic.normal ?_
          go_wp2
          have S' := S.allCh c I9 J6 h15
          (refine Sep.ret1 S rfl rfl memA Try.underlying33 rfl ts33 rfl ?_)
          exact S'.retOwn List.mem_cons_self
        refine rdc 9 (fun K hK => ?_) AllReadyH.nil
        refine rgLit0 tInt (e := 3) S ?_; clear S; intro g31 w9 z9 S
        (first | refine hK.out _ _ (S.sub subA) (fun _ => ?_) | (go_wp2_with fail; refine hK.out _ _ (S.sub subA) (fun _ => ?_)))
        clear hK K
        (try simp only [Act.put, List.setIfInBounds_toArray, List.set_cons_zero, List.set_cons_succ])
        refine rdy1 7 (fun K hK => ?_)
        go_simp; (skip; go_at_call 94; (with_reducible refine (l3Copy_c _ c.st _ (tSt.fr S.frame h12) HS.out).mono ?_); rintro e w9 ⟨cs9, F9, rfl, h9, n9, b9, f9⟩; replace S := S.new (aOwn tSt _ cs9 F9) h9 n9 b9 f9; clear h9 n9 b9 f9; obtain ⟨A6, n6, A7, n7, A8, n8, A9, n9, Z6, Z7, Z8, Z9, rfl, rfl, J6, S9⟩ := S.openSt; replace S := S9; clear S9)
        (first | refine hK.out _ _ (S.sub subA) (fun _ => ?_) | (go_wp2_with fail; refine hK.out _ _ (S.sub subA) (fun _ => ?_)))
        clear hK K
        (try simp only [Act.put, List.setIfInBounds_toArray, List.set_cons_zero, List.set_cons_succ])
        refine rdy1 12 (fun K hK => ?_)
        refine rgApR (v := .slice (some ⟨g31, 0, none⟩) 0 0) tInt_plain S delA (h14.fr S.frame) (.inr ⟨_, _, _, rfl⟩) (by simpa using HK.out) ?_; clear S; intro A34 c34 F34 w9 S
        (first | refine hK.out _ _ (S.sub subA) (fun _ => ?_) | (go_wp2_with fail; refine hK.out _ _ (S.sub subA) (fun _ => ?_)))
        clear hK K
        (try simp only [Act.put, List.setIfInBounds_toArray, List.set_cons_zero, List.set_cons_succ])
        refine tk 13 ?_
        (try simp only [Act.put, List.setIfInBounds_toArray, List.set_cons_zero, List.set_cons_succ])
        refine rdy1 14 (fun K hK => ?_)
        (first | refine rgS1 S ?_ | refine rgSt S ?_ | refine rgSp S ?_); clear S; intro w9 S
        (first | refine hK.out _ _ (S.sub subA) (fun _ => ?_) | (go_wp2_with fail; refine hK.out _ _ (S.sub subA) (fun _ => ?_)))
        clear hK K
        (try simp only [Act.put, List.setIfInBounds_toArray, List.set_cons_zero, List.set_cons_succ])
        refine wpAnyH_done (by kernel_rfl) ?_ _
        refine NoPanic.normal ?_
        go_wp2
        have S' := S.allCh c I9 J6 h15
        (refine Sep.ret1 S rfl rfl memA Try.underlying33 rfl ts33 rfl ?_)
        exact S'.retOwn List.mem_cons_self
      refine rdc 9 (fun K hK => ?_) AllReadyH.nil
      refine rgLit0 tInt (e := 3) S ?_; clear S; intro g31 w9 z9 S
      (first | refine hK.out _ _ (S.sub subA) (fun _ => ?_) | (go_wp2_with fail; refine hK.out _ _ (S.sub subA) (fun _ => ?_)))
      clear hK K
      (try simp only [Act.put, List.setIfInBounds_toArray, List.set_cons_zero, List.set_cons_succ])
      refine rdy1 4 (fun K hK => ?_)
      go_simp; (skip; go_at_call 129; (with_reducible refine (l1Copy_d _ c.bank _ (tBk.fr S.frame h11) HB.out).mono ?_); rintro e w9 ⟨cs9, F9, rfl, h9, n9, b9, f9⟩; replace S := S.new (aOwn tBk _ cs9 F9) h9 n9 b9 f9; clear h9 n9 b9 f9; obtain ⟨x1, x2, Y1, Y2, rfl, rfl, I9, S9⟩ := S.openBk; replace S := S9; clear S9)
      (first | refine hK.out _ _ (S.sub subA) (fun _ => ?_) | (go_wp2_with fail; refine hK.out _ _ (S.sub subA) (fun _ => ?_)))
      clear hK K
      (try simp only [Act.put, List.setIfInBounds_toArray, List.set_cons_zero, List.set_cons_succ])
      refine rdy1 7 (fun K hK => ?_)
      go_simp; (skip; go_at_call 94; (with_reducible refine (l3Copy_c _ c.st _ (tSt.fr S.frame h12) HS.out).mono ?_); rintro e w9 ⟨cs9, F9, rfl, h9, n9, b9, f9⟩; replace S := S.new (aOwn tSt _ cs9 F9) h9 n9 b9 f9; clear h9 n9 b9 f9; obtain ⟨A6, n6, A7, n7, A8, n8, A9, n9, Z6, Z7, Z8, Z9, rfl, rfl, J6, S9⟩ := S.openSt; replace S := S9; clear S9)
      (first | refine hK.out _ _ (S.sub subA) (fun _ => ?_) | (go_wp2_with fail; refine hK.out _ _ (S.sub subA) (fun _ => ?_)))
      clear hK K
      (try simp only [Act.put, List.setIfInBounds_toArray, List.set_cons_zero, List.set_cons_succ])
      refine rdy1 12 (fun K hK => ?_)
      refine rgApR (v := .slice (some ⟨g31, 0, none⟩) 0 0) tInt_plain S delA (h14.fr S.frame) (.inr ⟨_, _, _, rfl⟩) (by simpa using HK.out) ?_; clear S; intro A34 c34 F34 w9 S
      (first | refine hK.out _ _ (S.sub subA) (fun _ => ?_) | (go_wp2_with fail; refine hK.out _ _ (S.sub subA) (fun _ => ?_)))
      clear hK K
      (try simp only [Act.put, List.setIfInBounds_toArray, List.set_cons_zero, List.set_cons_succ])
      refine tk 13 ?_
      (try simp only [Act.put, List.setIfInBounds_toArray, List.set_cons_zero, List.set_cons_succ])
      refine rdy1 14 (fun K hK => ?_)
      (first | refine rgS1 S ?_ | refine rgSt S ?_ | refine rgSp S ?_); clear S; intro w9 S
      (first | refine hK.out _ _ (S.sub subA) (fun _ => ?_) | (go_wp2_with fail; refine hK.out _ _ (S.sub subA) (fun _ => ?_)))
      clear hK K
      (try simp only [Act.put, List.setIfInBounds_toArray, List.set_cons_zero, List.set_cons_succ])
      refine wpAnyH_done (by kernel_rfl) ?_ _
      refine NoPanic.normal ?_
      go_wp2
      have S' := S.allCh c I9 J6 h15
      (refine Sep.ret1 S rfl rfl memA Try.underlying33 rfl ts33 rfl ?_)
      exact S'.retOwn List.mem_cons_self
end Go.Proofs.Ytapdcgjccckjeaa
namespace Go.Proofs.Ytapdcgjccckjeaa
set_option maxRecDepth 100000
set_option linter.unusedVariables false
set_option linter.unusedSimpArgs false
open Go.RowKit
theorem rev_take {α : Type} (xs : List α) (k : Nat) (h : k < xs.length) : (xs.take (k + 1)).reverse = xs[k] :: (xs.take k).reverse := by
  rw [List.take_succ_eq_append_getElem h, List.reverse_append]
  rfl
theorem rep_drop {α : Type} (xs : List α) (z : α) (k : Nat) : List.replicate (k + 1) z ++ xs.drop (k + 1) = List.replicate k z ++ z :: xs.drop (k + 1) := by
  rw [List.replicate_succ', List.append_assoc]
  rfl
set_option maxHeartbeats 6400000 in
theorem chain_c (w : World) (g : Nat) (c : Ch) (F : List Nat) (h : (aLnk g c F).ok w ∧ F.Nodup) (hl : c.past.length ≤ 1000000) :
    Calls Try.prog 65 #[.pointer (some ⟨g, 0, none⟩)] w fun e w' => ∃ cs F', e = .returned (.agg cs.toArray) ∧ Sep F w [aOwn tCh c cs F'] w' := by
  have S := Sep.startLnk h.1 h.2
  obtain ⟨A1, m1, A2, m2, B1, n1, B2, n2, B3, n3, B4, n4, p, A5, m5, Y1, Y2, Z1, Z2, Z3, Z4, M1, K1, I9, J9, h15, S9⟩ := S.openLnk
  replace S := S9
  clear S9
  have HP := Lib.hid (show c.past.length ≤ 2097152 by omega)
  clear h
  go_enter Try.func65, Try.ntmps65
  go_wp2_with (first | ((with_reducible refine gate_dst (N := 2) rfl ?_); refine aAl S ?_; clear S; intro gR w9 z9 S))
  have S0 := (Sep.only1 (a1 := aBox g _ _ _) S delA)
  refine wp_region_noPanic ?_
  refine wp_region_held_drew (S := Sep _ _ _) (by kernel_rfl) S0.drew (fun _ => ?_)
  replace S := S.drew
  clear S0
  refine tk 0 ?_
  (try simp only [Act.put, List.setIfInBounds_toArray, List.set_cons_zero, List.set_cons_succ])
  refine tk 1 ?_
  (try simp only [Act.put, List.setIfInBounds_toArray, List.set_cons_zero, List.set_cons_succ])
  refine tk 2 ?_
  (try simp only [Act.put, List.setIfInBounds_toArray, List.set_cons_zero, List.set_cons_succ])
  refine tk 3 ?_ (hy := by exact yL1)
  (try simp only [Act.put, List.setIfInBounds_toArray, List.set_cons_zero, List.set_cons_succ])
  refine tk 4 ?_
  (try simp only [Act.put, List.setIfInBounds_toArray, List.set_cons_zero, List.set_cons_succ])
  refine tk 5 ?_
  (try simp only [Act.put, List.setIfInBounds_toArray, List.set_cons_zero, List.set_cons_succ])
  refine tk 6 ?_
  (try simp only [Act.put, List.setIfInBounds_toArray, List.set_cons_zero, List.set_cons_succ])
  refine tk 7 ?_ (hy := by exact yPt)
  (try simp only [Act.put, List.setIfInBounds_toArray, List.set_cons_zero, List.set_cons_succ])
  refine tk 8 ?_
  (try simp only [Act.put, List.setIfInBounds_toArray, List.set_cons_zero, List.set_cons_succ])
  refine tk 9 ?_
  (try simp only [Act.put, List.setIfInBounds_toArray, List.set_cons_zero, List.set_cons_succ])
  refine tk 10 ?_
  (try simp only [Act.put, List.setIfInBounds_toArray, List.set_cons_zero, List.set_cons_succ])
  refine tk 11 ?_ (hy := by exact yPt)
  (try simp only [Act.put, List.setIfInBounds_toArray, List.set_cons_zero, List.set_cons_succ])
  refine tk 12 ?_
  (try simp only [Act.put, List.setIfInBounds_toArray, List.set_cons_zero, List.set_cons_succ])
  refine tk 13 ?_
  (try simp only [Act.put, List.setIfInBounds_toArray, List.set_cons_zero, List.set_cons_succ])
  refine tk 14 ?_
  (try simp only [Act.put, List.setIfInBounds_toArray, List.set_cons_zero, List.set_cons_succ])
  refine tk 15 ?_ (hy := by exact yL1)
  (try simp only [Act.put, List.setIfInBounds_toArray, List.set_cons_zero, List.set_cons_succ])
  refine tk 17 ?_
  (try simp only [Act.put, List.setIfInBounds_toArray, List.set_cons_zero, List.set_cons_succ])
  refine tk 18 ?_
  (try simp only [Act.put, List.setIfInBounds_toArray, List.set_cons_zero, List.set_cons_succ])
  refine tk 19 ?_
  (try simp only [Act.put, List.setIfInBounds_toArray, List.set_cons_zero, List.set_cons_succ])
  refine tk 20 ?_ (hy := by exact yL1)
  (try simp only [Act.put, List.setIfInBounds_toArray, List.set_cons_zero, List.set_cons_succ])
  refine rdys [16, 22] ?_
  refine rdc 16 (fun K hK => ?_) ?_
  · refine rgMk (d := tSt) zStS S zStS_own HP.out ?_; clear S; intro gp w9 z9 S
    (first | refine hK.out _ _ (S.sub subA) (fun _ => ?_) | (go_wp2_with fail; refine hK.out _ _ (S.sub subA) (fun _ => ?_)))
    clear hK K
    (try simp only [Act.put, List.setIfInBounds_toArray, List.set_cons_zero, List.set_cons_succ])
    refine tk 21 ?_
    (try simp only [Act.put, List.setIfInBounds_toArray, List.set_cons_zero, List.set_cons_succ])
    refine rdy1 22 (fun K hK => ?_)
    refine rgAl S ?_; clear S; intro gC w9 z9 S
    (first | refine hK.out _ _ (S.sub subA) (fun _ => ?_) | (go_wp2_with fail; refine hK.out _ _ (S.sub subA) (fun _ => ?_)))
    clear hK K
    (try simp only [Act.put, List.setIfInBounds_toArray, List.set_cons_zero, List.set_cons_succ])
    refine rdy1 23 (fun K hK => ?_)
    (first | refine rgS1 S ?_ | refine rgSt S ?_ | refine rgSp S ?_); clear S; intro w9 S
    (first | refine hK.out _ _ (S.sub subA) (fun _ => ?_) | (go_wp2_with fail; refine hK.out _ _ (S.sub subA) (fun _ => ?_)))
    clear hK K
    (try simp only [Act.put, List.setIfInBounds_toArray, List.set_cons_zero, List.set_cons_succ])
    refine wpAnyH_done (by kernel_rfl) ?_ _
    refine NoPanic.normal ?_
    go_wp2_with (first | ((with_reducible refine gate_box rfl ?_); refine aBx S ?_; clear S; intro g9 w9 z9 S) | ((with_reducible refine gate_alloc rfl ?_); refine aAl S ?_; clear S; intro g9 w9 z9 S) | ((with_reducible refine gate_load rfl ?_); first | refine aLd S ?_ | refine aPt S ?_ | refine aL1 S ?_) | ((with_reducible refine gate_st rfl ?_); (first | refine aS1 S ?_ | refine aSt S ?_ | refine aSp S ?_); clear S; intro w9 S))
    go_loopw [4, 5] (fun i m wr => ∃ (k : Nat) (p : Option Addr) (Fm Fp : List Nat), k ≤ c.past.length ∧ i = .int .i64 k ∧ m = .pointer p ∧ Sep F w [aMks (.pointer p) (c.past.take k).reverse Fm, aRow tSt 30 (List.replicate k zStS ++ c.past.drop k) (.slice (some ⟨gp, 0, none⟩) c.past.length c.past.length) Fp, aBox gC 33 13 _, aRow tInt 3 c.bank.own (.slice A1 c.bank.own.length m1) Y1, aRow tInt 3 c.bank.notes (.slice A2 c.bank.notes.length m2) Y2, aRow tPk 88 c.st.sent (.slice B1 c.st.sent.length n1) Z1, aRow tBool 4 c.st.live (.slice B2 c.st.live.length n2) Z2, aRow tBool 4 c.st.back (.slice B3 c.st.back.length n3) Z3, aRow tInt 3 c.st.got (.slice B4 c.st.got.length n4) Z4, aRow tInt 3 c.knows (.slice A5 c.knows.length m5) K1, aBox gR 33 13 _] wr) (fun i _ _ => (intOf i).toNat)
    case atStart => exact ⟨c.past.length, p, M1, _, Nat.le_refl _, rfl, rfl, by rw [List.take_length, List.drop_length, List.append_nil]; exact (Sep.only11 (a1 := aMks _ _ _) (a2 := aRow tSt _ _ _ _) (a3 := aBox gC _ _ _) (a4 := aRow tInt _ _ _ Y1) (a5 := aRow tInt _ _ _ Y2) (a6 := aRow tPk _ _ _ Z1) (a7 := aRow tBool _ _ _ Z2) (a8 := aRow tBool _ _ _ Z3) (a9 := aRow tInt _ _ _ Z4) (a10 := aRow tInt _ _ _ K1) (a11 := aBox gR _ _ _) S delA delA delA delA delA delA delA delA delA delA delA)⟩
    case round =>
      clear S
      obtain ⟨k, p, Fm, Fp, hk, rfl, rfl, S⟩ := hrel
      rcases k with _ | k
      · obtain ⟨hp, S9⟩ := S.mksNil
        cases hp
        replace S := S9
        clear S9
        rw [List.drop_zero, List.replicate_zero, List.nil_append] at S
        go_wp2_with (first | ((with_reducible refine gate_box rfl ?_); refine aBx S ?_; clear S; intro g9 w9 z9 S) | ((with_reducible refine gate_alloc rfl ?_); refine aAl S ?_; clear S; intro g9 w9 z9 S) | ((with_reducible refine gate_load rfl ?_); first | refine aLd S ?_ | refine aPt S ?_ | refine aL1 S ?_) | ((with_reducible refine gate_st rfl ?_); (first | refine aS1 S ?_ | refine aSt S ?_ | refine aSp S ?_); clear S; intro w9 S))
        have S' := S.allCh c I9 J9 h15
        (refine Sep.ret1 S rfl rfl memA Try.underlying33 rfl ts33 rfl ?_)
        exact ⟨_, _, rfl, S'.left [_]⟩
      · have hlt : k < c.past.length := by omega
        rw [rev_take c.past k hlt, rep_drop] at S
        obtain ⟨gm, v1, v2, v3, v4, a, F1, F2, hp, hF, S9⟩ := S.mksUncons
        cases hp
        replace S := S9
        clear S9 hF
        have T0 := Lib.hid (show (List.replicate k zStS).length = k by simp)
        have D1 := Lib.hid (show c.past[k] :: c.past.drop (k + 1) = c.past.drop k from (List.drop_eq_getElem_cons hlt).symm)
        have p0 : (0 : Int) ≤ (k : Int) := Int.natCast_nonneg _
        have p1 : (k : Int) < (c.past.length : Int) := by omega
        have w1 : IntKind.i64.wrap ((k : Int) + 1 - 1) = (k : Int) := by rw [Int.add_sub_cancel]; exact IntWalk.i64_in _ (by omega)
        have w2 : IntKind.i64.wrap (k : Int) = (k : Int) := IntWalk.i64_in _ (by omega)
        clear hk
        go_wp2_with (first | ((with_reducible refine gate_box rfl ?_); refine aBx S ?_; clear S; intro g9 w9 z9 S) | ((with_reducible refine gate_alloc rfl ?_); refine aAl S ?_; clear S; intro g9 w9 z9 S) | ((with_reducible refine gate_load rfl ?_); first | refine aLd S ?_ | refine aPt S ?_ | refine aL1 S ?_) | ((with_reducible refine gate_st rfl ?_); (first | refine aS1 S ?_ | refine aSt S ?_ | refine aSp S ?_); clear S; intro w9 S))
        have S0 := (Sep.only2 (a1 := aBox gm _ _ _) (a2 := aBox gC _ _ _) S delA delA)
        refine wp_region_noPanic ?_
        refine wp_region_held_drew (S := Sep _ _ _) (by kernel_rfl) S0.drew (fun _ => ?_)
        replace S := S.drew
        clear S0
        refine tk 0 ?_
        (try simp only [Act.put, List.setIfInBounds_toArray, List.set_cons_zero, List.set_cons_succ])
        refine tk 1 ?_ (hy := by exact yL1)
        (try simp only [Act.put, List.setIfInBounds_toArray, List.set_cons_zero, List.set_cons_succ])
        refine tk 2 ?_
        (try simp only [Act.put, List.setIfInBounds_toArray, List.set_cons_zero, List.set_cons_succ])
        refine tk 3 ?_
        (try simp only [Act.put, List.setIfInBounds_toArray, List.set_cons_zero, List.set_cons_succ])
        refine tk 4 ?_
        (try simp only [Act.put, List.setIfInBounds_toArray, List.set_cons_zero, List.set_cons_succ])
        refine tk 5 ?_
        (try simp only [Act.put, List.setIfInBounds_toArray, List.set_cons_zero, List.set_cons_succ])
        refine tk 6 ?_ (hy := by exact yPt)
        (try simp only [Act.put, List.setIfInBounds_toArray, List.set_cons_zero, List.set_cons_succ])
        refine tk 7 ?_
        (try simp only [Act.put, List.setIfInBounds_toArray, List.set_cons_zero, List.set_cons_succ])
        refine rdy1 8 (fun K hK => ?_)
        refine rgEl S delA delA T0.out ?_; clear S; intro F9 w9 S
        (first | refine hK.out _ _ (S.sub subA) (fun _ => ?_) | (go_wp2_with fail; refine hK.out _ _ (S.sub subA) (fun _ => ?_)))
        clear hK K
        (try simp only [Act.put, List.setIfInBounds_toArray, List.set_cons_zero, List.set_cons_succ])
        refine wpAnyH_done (by kernel_rfl) ?_ _
        refine NoPanic.normal ?_
        go_wp2_with (first | ((with_reducible refine gate_box rfl ?_); refine aBx S ?_; clear S; intro g9 w9 z9 S) | ((with_reducible refine gate_alloc rfl ?_); refine aAl S ?_; clear S; intro g9 w9 z9 S) | ((with_reducible refine gate_load rfl ?_); first | refine aLd S ?_ | refine aPt S ?_ | refine aL1 S ?_) | ((with_reducible refine gate_st rfl ?_); (first | refine aS1 S ?_ | refine aSt S ?_ | refine aSp S ?_); clear S; intro w9 S))
        rw [D1.out] at S
        go_roundw
        case rel => exact ⟨k, a, F2, F9, by omega, by go_num, rfl, (Sep.only11 (a1 := aMks _ _ _) (a2 := aRow tSt _ _ _ _) (a3 := aBox gC _ _ _) (a4 := aRow tInt _ _ _ Y1) (a5 := aRow tInt _ _ _ Y2) (a6 := aRow tPk _ _ _ Z1) (a7 := aRow tBool _ _ _ Z2) (a8 := aRow tBool _ _ _ Z3) (a9 := aRow tInt _ _ _ Z4) (a10 := aRow tInt _ _ _ K1) (a11 := aBox gR _ _ _) S delA delA delA delA delA delA delA delA delA delA delA)⟩
        case measure => simp [intOf]
  refine rdc 22 (fun K hK => ?_) AllReadyH.nil
  refine rgAl S ?_; clear S; intro gC w9 z9 S
  (first | refine hK.out _ _ (S.sub subA) (fun _ => ?_) | (go_wp2_with fail; refine hK.out _ _ (S.sub subA) (fun _ => ?_)))
  clear hK K
  (try simp only [Act.put, List.setIfInBounds_toArray, List.set_cons_zero, List.set_cons_succ])
  refine rdy1 16 (fun K hK => ?_)
  refine rgMk (d := tSt) zStS S zStS_own HP.out ?_; clear S; intro gp w9 z9 S
  (first | refine hK.out _ _ (S.sub subA) (fun _ => ?_) | (go_wp2_with fail; refine hK.out _ _ (S.sub subA) (fun _ => ?_)))
  clear hK K
  (try simp only [Act.put, List.setIfInBounds_toArray, List.set_cons_zero, List.set_cons_succ])
  refine tk 21 ?_
  (try simp only [Act.put, List.setIfInBounds_toArray, List.set_cons_zero, List.set_cons_succ])
  refine rdy1 23 (fun K hK => ?_)
  (first | refine rgS1 S ?_ | refine rgSt S ?_ | refine rgSp S ?_); clear S; intro w9 S
  (first | refine hK.out _ _ (S.sub subA) (fun _ => ?_) | (go_wp2_with fail; refine hK.out _ _ (S.sub subA) (fun _ => ?_)))
  clear hK K
  (try simp only [Act.put, List.setIfInBounds_toArray, List.set_cons_zero, List.set_cons_succ])
  refine wpAnyH_done (by kernel_rfl) ?_ _
  refine NoPanic.normal ?_
  go_wp2_with (first | ((with_reducible refine gate_box rfl ?_); refine aBx S ?_; clear S; intro g9 w9 z9 S) | ((with_reducible refine gate_alloc rfl ?_); refine aAl S ?_; clear S; intro g9 w9 z9 S) | ((with_reducible refine gate_load rfl ?_); first | refine aLd S ?_ | refine aPt S ?_ | refine aL1 S ?_) | ((with_reducible refine gate_st rfl ?_); (first | refine aS1 S ?_ | refine aSt S ?_ | refine aSp S ?_); clear S; intro w9 S))
  go_loopw [4, 5] (fun i m wr => ∃ (k : Nat) (p : Option Addr) (Fm Fp : List Nat), k ≤ c.past.length ∧ i = .int .i64 k ∧ m = .pointer p ∧ Sep F w [aMks (.pointer p) (c.past.take k).reverse Fm, aRow tSt 30 (List.replicate k zStS ++ c.past.drop k) (.slice (some ⟨gp, 0, none⟩) c.past.length c.past.length) Fp, aBox gC 33 13 _, aRow tInt 3 c.bank.own (.slice A1 c.bank.own.length m1) Y1, aRow tInt 3 c.bank.notes (.slice A2 c.bank.notes.length m2) Y2, aRow tPk 88 c.st.sent (.slice B1 c.st.sent.length n1) Z1, aRow tBool 4 c.st.live (.slice B2 c.st.live.length n2) Z2, aRow tBool 4 c.st.back (.slice B3 c.st.back.length n3) Z3, aRow tInt 3 c.st.got (.slice B4 c.st.got.length n4) Z4, aRow tInt 3 c.knows (.slice A5 c.knows.length m5) K1, aBox gR 33 13 _] wr) (fun i _ _ => (intOf i).toNat)
  case atStart => exact ⟨c.past.length, p, M1, _, Nat.le_refl _, rfl, rfl, by rw [List.take_length, List.drop_length, List.append_nil]; exact (Sep.only11 (a1 := aMks _ _ _) (a2 := aRow tSt _ _ _ _) (a3 := aBox gC _ _ _) (a4 := aRow tInt _ _ _ Y1) (a5 := aRow tInt _ _ _ Y2) (a6 := aRow tPk _ _ _ Z1) (a7 := aRow tBool _ _ _ Z2) (a8 := aRow tBool _ _ _ Z3) (a9 := aRow tInt _ _ _ Z4) (a10 := aRow tInt _ _ _ K1) (a11 := aBox gR _ _ _) S delA delA delA delA delA delA delA delA delA delA delA)⟩
  case round =>
    clear S
    obtain ⟨k, p, Fm, Fp, hk, rfl, rfl, S⟩ := hrel
    rcases k with _ | k
    · obtain ⟨hp, S9⟩ := S.mksNil
      cases hp
      replace S := S9
      clear S9
      rw [List.drop_zero, List.replicate_zero, List.nil_append] at S
      go_wp2_with (first | ((with_reducible refine gate_box rfl ?_); refine aBx S ?_; clear S; intro g9 w9 z9 S) | ((with_reducible refine gate_alloc rfl ?_); refine aAl S ?_; clear S; intro g9 w9 z9 S) | ((with_reducible refine gate_load rfl ?_); first | refine aLd S ?_ | refine aPt S ?_ | refine aL1 S ?_) | ((with_reducible refine gate_st rfl ?_); (first | refine aS1 S ?_ | refine aSt S ?_ | refine aSp S ?_); clear S; intro w9 S))
      have S' := S.allCh c I9 J9 h15
      (refine Sep.ret1 S rfl rfl memA Try.underlying33 rfl ts33 rfl ?_)
      exact ⟨_, _, rfl, S'.left [_]⟩
    · have hlt : k < c.past.length := by omega
      rw [rev_take c.past k hlt, rep_drop] at S
      obtain ⟨gm, v1, v2, v3, v4, a, F1, F2, hp, hF, S9⟩ := S.mksUncons
      cases hp
      replace S := S9
      clear S9 hF
      have T0 := Lib.hid (show (List.replicate k zStS).length = k by simp)
      have D1 := Lib.hid (show c.past[k] :: c.past.drop (k + 1) = c.past.drop k from (List.drop_eq_getElem_cons hlt).symm)
      have p0 : (0 : Int) ≤ (k : Int) := Int.natCast_nonneg _
      have p1 : (k : Int) < (c.past.length : Int) := by omega
      have w1 : IntKind.i64.wrap ((k : Int) + 1 - 1) = (k : Int) := by rw [Int.add_sub_cancel]; exact IntWalk.i64_in _ (by omega)
      have w2 : IntKind.i64.wrap (k : Int) = (k : Int) := IntWalk.i64_in _ (by omega)
      clear hk
      go_wp2_with (first | ((with_reducible refine gate_box rfl ?_); refine aBx S ?_; clear S; intro g9 w9 z9 S) | ((with_reducible refine gate_alloc rfl ?_); refine aAl S ?_; clear S; intro g9 w9 z9 S) | ((with_reducible refine gate_load rfl ?_); first | refine aLd S ?_ | refine aPt S ?_ | refine aL1 S ?_) | ((with_reducible refine gate_st rfl ?_); (first | refine aS1 S ?_ | refine aSt S ?_ | refine aSp S ?_); clear S; intro w9 S))
      have S0 := (Sep.only2 (a1 := aBox gm _ _ _) (a2 := aBox gC _ _ _) S delA delA)
      refine wp_region_noPanic ?_
      refine wp_region_held_drew (S := Sep _ _ _) (by kernel_rfl) S0.drew (fun _ => ?_)
      replace S := S.drew
      clear S0
      refine tk 0 ?_
      (try simp only [Act.put, List.setIfInBounds_toArray, List.set_cons_zero, List.set_cons_succ])
      refine tk 1 ?_ (hy := by exact yL1)
      (try simp only [Act.put, List.setIfInBounds_toArray, List.set_cons_zero, List.set_cons_succ])
      refine tk 2 ?_
      (try simp only [Act.put, List.setIfInBounds_toArray, List.set_cons_zero, List.set_cons_succ])
      refine tk 3 ?_
      (try simp only [Act.put, List.setIfInBounds_toArray, List.set_cons_zero, List.set_cons_succ])
      refine tk 4 ?_
      (try simp only [Act.put, List.setIfInBounds_toArray, List.set_cons_zero, List.set_cons_succ])
      refine tk 5 ?_
      (try simp only [Act.put, List.setIfInBounds_toArray, List.set_cons_zero, List.set_cons_succ])
      refine tk 6 ?_ (hy := by exact yPt)
      (try simp only [Act.put, List.setIfInBounds_toArray, List.set_cons_zero, List.set_cons_succ])
      refine tk 7 ?_
      (try simp only [Act.put, List.setIfInBounds_toArray, List.set_cons_zero, List.set_cons_succ])
      refine rdy1 8 (fun K hK => ?_)
      refine rgEl S delA delA T0.out ?_; clear S; intro F9 w9 S
      (first | refine hK.out _ _ (S.sub subA) (fun _ => ?_) | (go_wp2_with fail; refine hK.out _ _ (S.sub subA) (fun _ => ?_)))
      clear hK K
      (try simp only [Act.put, List.setIfInBounds_toArray, List.set_cons_zero, List.set_cons_succ])
      refine wpAnyH_done (by kernel_rfl) ?_ _
      refine NoPanic.normal ?_
      go_wp2_with (first | ((with_reducible refine gate_box rfl ?_); refine aBx S ?_; clear S; intro g9 w9 z9 S) | ((with_reducible refine gate_alloc rfl ?_); refine aAl S ?_; clear S; intro g9 w9 z9 S) | ((with_reducible refine gate_load rfl ?_); first | refine aLd S ?_ | refine aPt S ?_ | refine aL1 S ?_) | ((with_reducible refine gate_st rfl ?_); (first | refine aS1 S ?_ | refine aSt S ?_ | refine aSp S ?_); clear S; intro w9 S))
      rw [D1.out] at S
      go_roundw
      case rel => exact ⟨k, a, F2, F9, by omega, by go_num, rfl, (Sep.only11 (a1 := aMks _ _ _) (a2 := aRow tSt _ _ _ _) (a3 := aBox gC _ _ _) (a4 := aRow tInt _ _ _ Y1) (a5 := aRow tInt _ _ _ Y2) (a6 := aRow tPk _ _ _ Z1) (a7 := aRow tBool _ _ _ Z2) (a8 := aRow tBool _ _ _ Z3) (a9 := aRow tInt _ _ _ Z4) (a10 := aRow tInt _ _ _ K1) (a11 := aBox gR _ _ _) S delA delA delA delA delA delA delA delA delA delA delA)⟩
      case measure => simp [intOf]
end Go.Proofs.Ytapdcgjccckjeaa
namespace Go.Proofs.Ytapdcgjccckjeaa
set_option maxRecDepth 100000
set_option linter.unusedVariables false
set_option linter.unusedSimpArgs false
open Go.RowKit
def nilCh : Ch := ⟨0, ⟨[], [], 0⟩, ⟨0, 0, 0, [], [], [], []⟩, [], []⟩
theorem nilCh_own (w : World) : tCh.own w nilCh [.int .i64 0, .slice none 0 0, .slice none 0 0, .int .i64 0, .int .i64 0, .int .i64 0, .int .i64 0, .slice none 0 0, .slice none 0 0, .slice none 0 0, .slice none 0 0, .slice none 0 0, .slice none 0 0] [] :=
  ⟨.slice none 0 0, .slice none 0 0, .slice none 0 0, .slice none 0 0, .slice none 0 0, .slice none 0 0, .slice none 0 0, .slice none 0 0, [], [], [], [], rfl, rfl, ⟨.slice none 0 0, .slice none 0 0, [], [], rfl, rfl, Ty.orow.nil _ _ _, Ty.orow.nil _ _ _, by unfold I64; simp [nilCh]⟩, zStS_own w, Ty.orow.nil _ _ _, Ty.orow.nil _ _ _, by unfold I64; simp [nilCh]⟩
theorem Sep.nilCh {F0 : List Nat} {w0 w : World} {L : List Asrt} (S : Sep F0 w0 L w) : Sep F0 w0 (aOwn tCh nilCh [.int .i64 0, .slice none 0 0, .slice none 0 0, .int .i64 0, .int .i64 0, .int .i64 0, .int .i64 0, .slice none 0 0, .slice none 0 0, .slice none 0 0, .slice none 0 0, .slice none 0 0, .slice none 0 0] [] :: L) w :=
  S.new (aOwn tCh Go.Proofs.Ytapdcgjccckjeaa.nilCh _ []) (nilCh_own w) (by simp [aOwn]) (fun q hq => by cases hq) (Fr.refl _)
theorem Sep.call01 {F0 : List Nat} {w0 w w' : World} {L : List Asrt} {a : Asrt} (S : Sep F0 w0 L w) (T : Sep [] w [a] w') : Sep F0 w0 (a :: L) w' := Sep.call [] S T
theorem Sep.callLnk1 {F0 : List Nat} {w0 w w' : World} {L L' : List Asrt} {a : Asrt} {g : Nat} {c : Ch} {F : List Nat} (S : Sep F0 w0 L w) (p : Del L (aLnk g c F) L') (T : Sep F w [a] w') : Sep F0 w0 (a :: L') w' := S.callLnk p T
theorem newCh_len (id : Int) : (newCh id).past.length ≤ 1000000 := Nat.zero_le _
def chNewV (id : Int) : Ch × Bool := if id = 1 ∨ id = 2 then (newCh id, true) else (nilCh, false)
set_option maxHeartbeats 3200000 in
theorem ChainNew_c (w : World) (id : Int) (hi : I64 id) : Calls Try.prog 17 #[.int .i64 id] w (RetOwn2 tCh (chNewV id) w) := by
  have S := Sep.start w
  by_cases h : id = 1 ∨ id = 2
  · have R := Lib.hid (show chNewV id = (newCh id, true) by unfold chNewV; rw [if_pos h])
    have HI := Lib.hid hi
    clear hi
    rcases h with rfl | rfl
    all_goals
      go_enter Try.func17, Try.ntmps17
      go_wp2_with (first
        | (go_at_call 64; (with_reducible refine (linkNew_c _ _ HI.out).mono ?_); rintro e w9 ⟨g9, F9, rfl, T9⟩; replace S := S.call01 T9; clear T9)
        | (go_at_call 65; (with_reducible refine (chain_c _ g9 (newCh _) F9 (S.lnk memA) (newCh_len _)).mono ?_); rintro e w9 ⟨cs9, G9, rfl, T9⟩; replace S := S.callLnk1 delA T9; clear T9)
        | ((with_reducible refine gate_box rfl ?_); refine aBx S ?_; clear S; intro g9 w9 z9 S) | ((with_reducible refine gate_alloc rfl ?_); refine aAl S ?_; clear S; intro g9 w9 z9 S) | ((with_reducible refine gate_load rfl ?_); first | refine aLd S ?_ | refine aPt S ?_ | refine aL1 S ?_) | ((with_reducible refine gate_st rfl ?_); (first | refine aS1 S ?_ | refine aSt S ?_ | refine aSp S ?_); clear S; intro w9 S))
      (refine Sep.ret1_1 S rfl rfl memA Try.underlying33 rfl ts33 rfl rfl ?_)
      rw [R.out]
      exact S.retOwn2 memA
  · have R := Lib.hid (show chNewV id = (nilCh, false) by unfold chNewV; rw [if_neg h])
    have d1 : (id != 1) = true := by simp; omega
    have d2 : (id != 2) = true := by simp; omega
    clear h hi
    go_enter Try.func17, Try.ntmps17
    go_wp2_with (first | ((with_reducible refine gate_box rfl ?_); refine aBx S ?_; clear S; intro g9 w9 z9 S) | ((with_reducible refine gate_alloc rfl ?_); refine aAl S ?_; clear S; intro g9 w9 z9 S) | ((with_reducible refine gate_load rfl ?_); first | refine aLd S ?_ | refine aPt S ?_ | refine aL1 S ?_) | ((with_reducible refine gate_st rfl ?_); (first | refine aS1 S ?_ | refine aSt S ?_ | refine aSp S ?_); clear S; intro w9 S))
    have S' := S.nilCh
    (refine Sep.ret1_1 S rfl rfl memA Try.underlying33 rfl ts33 rfl rfl ?_)
    rw [R.out]
    exact S'.retOwn2 List.mem_cons_self
set_option maxHeartbeats 3200000 in
theorem sChainNew_c (w : World) (id : Int) (hi : I64 id) : Calls Try.prog 16 #[.int .i64 id] w (RetOwn2 tCh (chNewV id) w) := by
  have S := Sep.start w
  by_cases h : id = 1 ∨ id = 2
  · have R := Lib.hid (show chNewV id = (newCh id, true) by unfold chNewV; rw [if_pos h])
    have HI := Lib.hid (show decide (1 ≤ id ∧ id ≤ 2) = true by simp; omega)
    clear h
    go_enter Try.func16, Try.ntmps16
    go_wp2_with (first
      | (go_at_call 61; (with_reducible refine (l6In_e _ id 1 2 HI.out).mono ?_); rintro e w9 ⟨rfl, rfl⟩)
      | (go_at_call 62; (with_reducible refine (sBankNew_c _).mono ?_); rintro e w9 ⟨cs9, F9, rfl, h9, n9, b9, f9⟩; replace S := S.new (aOwn tBk _ cs9 F9) h9 n9 b9 f9; clear h9 n9 b9 f9; obtain ⟨x1, x2, Y1, Y2, rfl, rfl, I9, S9⟩ := S.openBk; replace S := S9; clear S9)
      | (go_at_call 63; (with_reducible refine (sStateNew_c _).mono ?_); rintro e w9 ⟨cs9, F9, rfl, h9, n9, b9, f9⟩; replace S := S.new (aOwn tSt _ cs9 F9) h9 n9 b9 f9; clear h9 n9 b9 f9; obtain ⟨A1, n1, A2, n2, A3, n3, A4, n4, Z1, Z2, Z3, Z4, rfl, rfl, J9, S9⟩ := S.openSt; replace S := S9; clear S9)
      | ((with_reducible refine gate_dst (N := 11) rfl ?_); refine aLit0 tSt (e := 30) S ?_; clear S; intro g11 w9 z9 S)
      | ((with_reducible refine gate_dst (N := 12) rfl ?_); refine aLit0 tInt (e := 3) S ?_; clear S; intro g12 w9 z9 S)
      | ((with_reducible refine gate_box rfl ?_); refine aBx S ?_; clear S; intro g9 w9 z9 S) | ((with_reducible refine gate_alloc rfl ?_); refine aAl S ?_; clear S; intro g9 w9 z9 S) | ((with_reducible refine gate_load rfl ?_); first | refine aLd S ?_ | refine aPt S ?_ | refine aL1 S ?_) | ((with_reducible refine gate_st rfl ?_); (first | refine aS1 S ?_ | refine aSt S ?_ | refine aSp S ?_); clear S; intro w9 S))
    have S' := S.allCh ⟨id, newBk, newSt, [], []⟩ I9 J9 hi
    (refine Sep.ret1_1 S rfl rfl memA Try.underlying33 rfl ts33 rfl rfl ?_)
    rw [R.out]
    exact S'.retOwn2 List.mem_cons_self
  · have R := Lib.hid (show chNewV id = (nilCh, false) by unfold chNewV; rw [if_neg h])
    have HI := Lib.hid (show decide (1 ≤ id ∧ id ≤ 2) = false by simp; omega)
    clear h hi
    go_enter Try.func16, Try.ntmps16
    go_wp2_with (first
      | (go_at_call 61; (with_reducible refine (l6In_e _ id 1 2 HI.out).mono ?_); rintro e w9 ⟨rfl, rfl⟩)
      | ((with_reducible refine gate_box rfl ?_); refine aBx S ?_; clear S; intro g9 w9 z9 S) | ((with_reducible refine gate_alloc rfl ?_); refine aAl S ?_; clear S; intro g9 w9 z9 S) | ((with_reducible refine gate_load rfl ?_); first | refine aLd S ?_ | refine aPt S ?_ | refine aL1 S ?_) | ((with_reducible refine gate_st rfl ?_); (first | refine aS1 S ?_ | refine aSt S ?_ | refine aSp S ?_); clear S; intro w9 S))
    have S' := S.nilCh
    (refine Sep.ret1_1 S rfl rfl memA Try.underlying33 rfl ts33 rfl rfl ?_)
    rw [R.out]
    exact S'.retOwn2 List.mem_cons_self
theorem ChainNew_e (w : World) (id : Int) (hi : I64 id) {x : Ch} {ok : Bool} (hR : chNewV id = (x, ok)) : Calls Try.prog 17 #[.int .i64 id] w (RetOwn2 tCh (x, ok) w) := hR ▸ ChainNew_c w id hi
theorem sChainNew_e (w : World) (id : Int) (hi : I64 id) {x : Ch} {ok : Bool} (hR : chNewV id = (x, ok)) : Calls Try.prog 16 #[.int .i64 id] w (RetOwn2 tCh (x, ok) w) := hR ▸ sChainNew_c w id hi
theorem chNewV_small {id : Int} {x : Ch} {ok : Bool} (hR : chNewV id = (x, ok)) : SmallCh x := by
  unfold chNewV at hR
  split at hR
  all_goals
    simp only [Prod.mk.injEq] at hR
    rw [← hR.1]
  · exact ⟨⟨by simp [newCh, newBk], by simp [newCh, newBk]⟩, by simp [Small, newCh, newSt], fun k h => by simp [newCh] at h, by simp [newCh, cntMStS], by simp [newCh]⟩
  · exact ⟨⟨by simp [nilCh], by simp [nilCh]⟩, by simp [Small, nilCh], fun k h => by simp [nilCh] at h, by simp [nilCh, cntMStS], by simp [nilCh]⟩
end Go.Proofs.Ytapdcgjccckjeaa
namespace Go.Proofs.Ytapdcgjccckjeaa
set_option maxRecDepth 100000
set_option linter.unusedVariables false
set_option linter.unusedSimpArgs false
open Go.RowKit
def blk (c : Ch) : Ch := if c.past.length < 90 then ⟨c.id, c.bank, c.st, c.past ++ [c.st], c.knows⟩ else c
theorem blk_yes {c : Ch} (h : c.past.length < 90) : blk c = ⟨c.id, c.bank, c.st, c.past ++ [c.st], c.knows⟩ := if_pos h
theorem blk_no {c : Ch} (h : ¬ c.past.length < 90) : blk c = c := if_neg h
theorem blk_len {c : Ch} (h : c.past.length ≤ 90) : (blk c).past.length ≤ 90 := by
  unfold blk
  split
  · simp; omega
  · exact h
set_option maxHeartbeats 3200000 in
theorem block_c (w : World) (g : Nat) (c : Ch) (F : List Nat) (h : (aLnk g c F).ok w ∧ F.Nodup) (hb : smallSt c.st) (hl : c.past.length ≤ 90) :
    Calls Try.prog 105 #[.pointer (some ⟨g, 0, none⟩)] w fun e w' => e = .returned (.tuple #[]) ∧ ∃ F', Sep F w [aLnk g (blk c) F'] w' := by
  have S := Sep.startLnk h.1 h.2
  obtain ⟨A1, m1, A2, m2, B1, n1, B2, n2, B3, n3, B4, n4, p, A5, m5, Y1, Y2, Z1, Z2, Z3, Z4, M1, K1, I9, J9, h15, S9⟩ := S.openLnk
  replace S := S9
  clear S9 h
  by_cases hlt : c.past.length < 90
  · have d1 : decide ((c.past.length : Int) < 90) = true := decide_eq_true (by omega)
    have B0 := Lib.hid (blk_yes hlt)
    have HB := Lib.hid hb
    have TL := Lib.hid (show c.past.length ≤ 1000000 by omega)
    clear hb hl hlt
    go_enter Try.func105, Try.ntmps105
    go_wp2_with (first
      | (go_at_call 131; go_loud ((with_reducible refine (record_c _ g c _ ((S.allLnk c I9 J9 h15).lnk List.mem_cons_self) c.st [.int .i64 c.st.way, .int .i64 c.st.vsn, .int .i64 c.st.want, .slice B1 c.st.sent.length n1, .slice B2 c.st.live.length n2, .slice B3 c.st.back.length n3, .slice B4 c.st.got.length n4] (tSt_mk (S.row (d := tPk) (xs := c.st.sent) (F := Z1) (e := 88) memA).row (S.row (d := tBool) (xs := c.st.live) (F := Z2) (e := 4) memA).row (S.row (d := tBool) (xs := c.st.back) (F := Z3) (e := 4) memA).row (S.row (d := tInt) (xs := c.st.got) (F := Z4) (e := 3) memA).row J9) HB.out TL.out).mono ?_); rintro e w9 ⟨rfl, F9, T9⟩; replace S := (S.allLnk c I9 J9 h15).callLnk1 (.head _ _) T9; clear T9))
      | ((with_reducible refine gate_box rfl ?_); refine aBx S ?_; clear S; intro g9 w9 z9 S) | ((with_reducible refine gate_alloc rfl ?_); refine aAl S ?_; clear S; intro g9 w9 z9 S) | ((with_reducible refine gate_load rfl ?_); first | refine aLd S ?_ | refine aPt S ?_ | refine aL1 S ?_) | ((with_reducible refine gate_st rfl ?_); (first | refine aS1 S ?_ | refine aSt S ?_ | refine aSp S ?_); clear S; intro w9 S))
    all_goals
      (try simp only [Exit.inBlock, Exit.then])
      refine bodyPost_end (results_none rfl _ _ _) rfl ?_
      rw [B0.out]
      exact ⟨rfl, F9, S.left [_]⟩
  · have d1 : decide ((c.past.length : Int) < 90) = false := decide_eq_false (by omega)
    have B0 := Lib.hid (blk_no hlt)
    clear hb hl hlt
    go_enter Try.func105, Try.ntmps105
    go_wp2_with (first | ((with_reducible refine gate_box rfl ?_); refine aBx S ?_; clear S; intro g9 w9 z9 S) | ((with_reducible refine gate_alloc rfl ?_); refine aAl S ?_; clear S; intro g9 w9 z9 S) | ((with_reducible refine gate_load rfl ?_); first | refine aLd S ?_ | refine aPt S ?_ | refine aL1 S ?_) | ((with_reducible refine gate_st rfl ?_); (first | refine aS1 S ?_ | refine aSt S ?_ | refine aSp S ?_); clear S; intro w9 S))
    have S' := S.allLnk c I9 J9 h15
    all_goals
      (try simp only [Exit.inBlock, Exit.then])
      refine bodyPost_end (results_none rfl _ _ _) rfl ?_
      rw [B0.out]
      exact ⟨rfl, _, S'.left [_]⟩
theorem Sep.startCh {w : World} {c : Ch} {cs : List Value} {F : List Nat} (h : (aOwn tCh c cs F).ok w ∧ F.Nodup) : Sep F w [aOwn tCh c cs F] w :=
  ⟨Chg.refl _ _, (fun a ha => by rw [List.mem_singleton.1 ha]; exact h.1), (fun a ha q hq => by rw [List.mem_singleton.1 ha] at hq; exact .inl hq), by simpa [fps, aOwn] using h.2⟩
theorem Sep.ownOk {α : Type} {d : Ty α} {F0 : List Nat} {w0 w : World} {L : List Asrt} {x : α} {cs : List Value} {F : List Nat} (S : Sep F0 w0 L w) (h : aOwn d x cs F ∈ L) : (aOwn d x cs F).ok w ∧ F.Nodup := ⟨S.ok _ h, S.nodup h⟩
theorem Sep.callCh1 {F0 : List Nat} {w0 w w' : World} {L L' : List Asrt} {a : Asrt} {c : Ch} {cs : List Value} {F : List Nat} (S : Sep F0 w0 L w) (p : Del L (aOwn tCh c cs F) L') (T : Sep F w [a] w') : Sep F0 w0 (a :: L') w' := Sep.call [aOwn tCh c cs F] (S.pull p) (by simpa [fps, aOwn] using T)
set_option maxHeartbeats 3200000 in
theorem l12Block_c (w : World) (c : Ch) (c1 : List Value) (F : List Nat) (h : (aOwn tCh c c1 F).ok w ∧ F.Nodup) (hb : smallSt c.st) (hl : c.past.length ≤ 90) :
    Calls Try.prog 102 #[.agg c1.toArray] w fun e w' => ∃ cs F', e = .returned (.agg cs.toArray) ∧ Sep F w [aOwn tCh (blk c) cs F'] w' := by
  have S := Sep.startCh h
  obtain ⟨b1, b2, s1, s2, s3, s4, A1, n1, A2, n2, F1, F2, F3, F4, rfl, rfl, h15, S9⟩ := S.openCh
  replace S := S9
  clear S9 h
  obtain ⟨x1, x2, Y1, Y2, e1, rfl, I9, S9⟩ := S.openBk
  simp only [List.cons.injEq, and_true] at e1
  obtain ⟨rfl, rfl⟩ := e1
  replace S := S9
  clear S9
  have S9 := S.pull (a := aOwn tSt c.st _ F2) delA
  replace S := S9
  clear S9
  obtain ⟨A6, n6, A7, n7, A8, n8, A9, n9, Z1, Z2, Z3, Z4, e1, rfl, J9, S9⟩ := S.openSt
  simp only [List.cons.injEq, and_true, true_and] at e1
  obtain ⟨rfl, rfl, rfl, rfl⟩ := e1
  replace S := S9
  clear S9
  by_cases hlt : c.past.length < 90
  · have d1 : decide ((c.past.length : Int) < 90) = true := decide_eq_true (by omega)
    have B0 := Lib.hid (blk_yes hlt)
    have HB := Lib.hid hb
    have TL := Lib.hid (show c.past.length + 1 ≤ 2097152 by omega)
    clear hb hl hlt
    go_enter Try.func102, Try.ntmps102
    go_wp2_with (first | ((with_reducible refine gate_dst (N := 1) rfl ?_); refine aBx S ?_; clear S; intro gP w9 z9 S) | ((with_reducible refine gate_dst (N := 2) rfl ?_); refine aAl S ?_; clear S; intro gR w9 z9 S) | ((with_reducible refine gate_box rfl ?_); refine aBx S ?_; clear S; intro g9 w9 z9 S) | ((with_reducible refine gate_alloc rfl ?_); refine aAl S ?_; clear S; intro g9 w9 z9 S) | ((with_reducible refine gate_load rfl ?_); first | refine aLd S ?_ | refine aPt S ?_ | refine aL1 S ?_) | ((with_reducible refine gate_st rfl ?_); (first | refine aS1 S ?_ | refine aSt S ?_ | refine aSp S ?_); clear S; intro w9 S))
    have S0 := (Sep.only1 (a1 := aBox gR _ _ _) S delA)
    refine wp_region_noPanic ?_
    refine wp_region_held_drew (S := Sep _ _ _) (by kernel_rfl) S0.drew (fun _ => ?_)
    replace S := S.drew
    clear S0
    refine tk 0 ?_
    (try simp only [Act.put, List.setIfInBounds_toArray, List.set_cons_zero, List.set_cons_succ])
    refine tk 2 ?_
    (try simp only [Act.put, List.setIfInBounds_toArray, List.set_cons_zero, List.set_cons_succ])
    refine rdys [1, 3] ?_
    refine rdc 1 (fun K hK => ?_) ?_
    · (first | refine rgLd S ?_ | refine rgPt S ?_ | refine rgL1 S ?_)
      (first | refine hK.out _ _ (S.sub subA) (fun _ => ?_) | (go_wp2_with fail; refine hK.out _ _ (S.sub subA) (fun _ => ?_)))
      clear hK K
      (try simp only [Act.put, List.setIfInBounds_toArray, List.set_cons_zero, List.set_cons_succ])
      refine rdy1 3 (fun K hK => ?_)
      (first | refine rgLd S ?_ | refine rgPt S ?_ | refine rgL1 S ?_)
      (first | refine hK.out _ _ (S.sub subA) (fun _ => ?_) | (go_wp2_with fail; refine hK.out _ _ (S.sub subA) (fun _ => ?_)))
      clear hK K
      (try simp only [Act.put, List.setIfInBounds_toArray, List.set_cons_zero, List.set_cons_succ])
      refine rdy1 4 (fun K hK => ?_)
      go_simp; (skip; go_at_call 94; (with_reducible refine (l3Copy_c _ c.st _ (tSt_mk (S.row (d := tPk) (xs := c.st.sent) (F := Z1) (e := 88) memA).row (S.row (d := tBool) (xs := c.st.live) (F := Z2) (e := 4) memA).row (S.row (d := tBool) (xs := c.st.back) (F := Z3) (e := 4) memA).row (S.row (d := tInt) (xs := c.st.got) (F := Z4) (e := 3) memA).row J9) HB.out).mono ?_); rintro e w9 ⟨cs9, F9, rfl, h9, n9, b9, f9⟩; replace S := S.new (aOwn tSt _ cs9 F9) h9 n9 b9 f9; clear h9 n9 b9 f9; obtain ⟨A6, n6, A7, n7, A8, n8, A9, n9, rfl⟩ := S.shapeSt List.mem_cons_self)
      (first | refine hK.out _ _ (S.sub subA) (fun _ => ?_) | (go_wp2_with fail; refine hK.out _ _ (S.sub subA) (fun _ => ?_)))
      clear hK K
      (try simp only [Act.put, List.setIfInBounds_toArray, List.set_cons_zero, List.set_cons_succ])
      refine rdy1 5 (fun K hK => ?_)
      refine rgLit1 (d := tSt) 30 S delA ?_; clear S; intro g12 w9 z9 S
      (first | refine hK.out _ _ (S.sub subA) (fun _ => ?_) | (go_wp2_with fail; refine hK.out _ _ (S.sub subA) (fun _ => ?_)))
      clear hK K
      (try simp only [Act.put, List.setIfInBounds_toArray, List.set_cons_zero, List.set_cons_succ])
      refine rdy1 6 (fun K hK => ?_)
      refine rgApO (d := tSt) (xs := c.past) (ys := [c.st]) (us := c.past ++ [c.st]) S delA delA (.inl (by decide)) TL.out ?_; clear S; intro A13 c13 F13 w9 S
      (first | refine hK.out _ _ (S.sub subA) (fun _ => ?_) | (go_wp2_with fail; refine hK.out _ _ (S.sub subA) (fun _ => ?_)))
      clear hK K
      (try simp only [Act.put, List.setIfInBounds_toArray, List.set_cons_zero, List.set_cons_succ])
      refine tk 7 ?_
      (try simp only [Act.put, List.setIfInBounds_toArray, List.set_cons_zero, List.set_cons_succ])
      refine rdy1 8 (fun K hK => ?_)
      (first | refine rgS1 S ?_ | refine rgSt S ?_ | refine rgSp S ?_); clear S; intro w9 S
      (first | refine hK.out _ _ (S.sub subA) (fun _ => ?_) | (go_wp2_with fail; refine hK.out _ _ (S.sub subA) (fun _ => ?_)))
      clear hK K
      (try simp only [Act.put, List.setIfInBounds_toArray, List.set_cons_zero, List.set_cons_succ])
      refine wpAnyH_done (by kernel_rfl) ?_ _
      refine NoPanic.normal ?_
      go_wp2_with (first | ((with_reducible refine gate_box rfl ?_); refine aBx S ?_; clear S; intro g9 w9 z9 S) | ((with_reducible refine gate_alloc rfl ?_); refine aAl S ?_; clear S; intro g9 w9 z9 S) | ((with_reducible refine gate_load rfl ?_); first | refine aLd S ?_ | refine aPt S ?_ | refine aL1 S ?_) | ((with_reducible refine gate_st rfl ?_); (first | refine aS1 S ?_ | refine aSt S ?_ | refine aSp S ?_); clear S; intro w9 S))
      have S' := S.allCh ⟨c.id, c.bank, c.st, c.past ++ [c.st], c.knows⟩ I9 J9 h15
      (refine Sep.ret1 S rfl rfl memA Try.underlying33 rfl ts33 rfl ?_)
      rw [B0.out]
      exact ⟨_, _, rfl, S'.left [_]⟩
    refine rdc 3 (fun K hK => ?_) AllReadyH.nil
    (first | refine rgLd S ?_ | refine rgPt S ?_ | refine rgL1 S ?_)
    (first | refine hK.out _ _ (S.sub subA) (fun _ => ?_) | (go_wp2_with fail; refine hK.out _ _ (S.sub subA) (fun _ => ?_)))
    clear hK K
    (try simp only [Act.put, List.setIfInBounds_toArray, List.set_cons_zero, List.set_cons_succ])
    refine rdys [1, 4] ?_
    refine rdc 1 (fun K hK => ?_) ?_
    · (first | refine rgLd S ?_ | refine rgPt S ?_ | refine rgL1 S ?_)
      (first | refine hK.out _ _ (S.sub subA) (fun _ => ?_) | (go_wp2_with fail; refine hK.out _ _ (S.sub subA) (fun _ => ?_)))
      clear hK K
      (try simp only [Act.put, List.setIfInBounds_toArray, List.set_cons_zero, List.set_cons_succ])
      refine rdy1 4 (fun K hK => ?_)
      go_simp; (skip; go_at_call 94; (with_reducible refine (l3Copy_c _ c.st _ (tSt_mk (S.row (d := tPk) (xs := c.st.sent) (F := Z1) (e := 88) memA).row (S.row (d := tBool) (xs := c.st.live) (F := Z2) (e := 4) memA).row (S.row (d := tBool) (xs := c.st.back) (F := Z3) (e := 4) memA).row (S.row (d := tInt) (xs := c.st.got) (F := Z4) (e := 3) memA).row J9) HB.out).mono ?_); rintro e w9 ⟨cs9, F9, rfl, h9, n9, b9, f9⟩; replace S := S.new (aOwn tSt _ cs9 F9) h9 n9 b9 f9; clear h9 n9 b9 f9; obtain ⟨A6, n6, A7, n7, A8, n8, A9, n9, rfl⟩ := S.shapeSt List.mem_cons_self)
      (first | refine hK.out _ _ (S.sub subA) (fun _ => ?_) | (go_wp2_with fail; refine hK.out _ _ (S.sub subA) (fun _ => ?_)))
      clear hK K
      (try simp only [Act.put, List.setIfInBounds_toArray, List.set_cons_zero, List.set_cons_succ])
      refine rdy1 5 (fun K hK => ?_)
      refine rgLit1 (d := tSt) 30 S delA ?_; clear S; intro g12 w9 z9 S
      (first | refine hK.out _ _ (S.sub subA) (fun _ => ?_) | (go_wp2_with fail; refine hK.out _ _ (S.sub subA) (fun _ => ?_)))
      clear hK K
      (try simp only [Act.put, List.setIfInBounds_toArray, List.set_cons_zero, List.set_cons_succ])
      refine rdy1 6 (fun K hK => ?_)
      refine rgApO (d := tSt) (xs := c.past) (ys := [c.st]) (us := c.past ++ [c.st]) S delA delA (.inl (by decide)) TL.out ?_; clear S; intro A13 c13 F13 w9 S
      (first | refine hK.out _ _ (S.sub subA) (fun _ => ?_) | (go_wp2_with fail; refine hK.out _ _ (S.sub subA) (fun _ => ?_)))
      clear hK K
      (try simp only [Act.put, List.setIfInBounds_toArray, List.set_cons_zero, List.set_cons_succ])
      refine tk 7 ?_
      (try simp only [Act.put, List.setIfInBounds_toArray, List.set_cons_zero, List.set_cons_succ])
      refine rdy1 8 (fun K hK => ?_)
      (first | refine rgS1 S ?_ | refine rgSt S ?_ | refine rgSp S ?_); clear S; intro w9 S
      (first | refine hK.out _ _ (S.sub subA) (fun _ => ?_) | (go_wp2_with fail; refine hK.out _ _ (S.sub subA) (fun _ => ?_)))
      clear hK K
      (try simp only [Act.put, List.setIfInBounds_toArray, List.set_cons_zero, List.set_cons_succ])
      refine wpAnyH_done (by kernel_rfl) ?_ _
      refine NoPanic.normal ?_
      go_wp2_with (first | ((with_reducible refine gate_box rfl ?_); refine aBx S ?_; clear S; intro g9 w9 z9 S) | ((with_reducible refine gate_alloc rfl ?_); refine aAl S ?_; clear S; intro g9 w9 z9 S) | ((with_reducible refine gate_load rfl ?_); first | refine aLd S ?_ | refine aPt S ?_ | refine aL1 S ?_) | ((with_reducible refine gate_st rfl ?_); (first | refine aS1 S ?_ | refine aSt S ?_ | refine aSp S ?_); clear S; intro w9 S))
      have S' := S.allCh ⟨c.id, c.bank, c.st, c.past ++ [c.st], c.knows⟩ I9 J9 h15
      (refine Sep.ret1 S rfl rfl memA Try.underlying33 rfl ts33 rfl ?_)
      rw [B0.out]
      exact ⟨_, _, rfl, S'.left [_]⟩
    refine rdc 4 (fun K hK => ?_) AllReadyH.nil
    go_simp; (skip; go_at_call 94; (with_reducible refine (l3Copy_c _ c.st _ (tSt_mk (S.row (d := tPk) (xs := c.st.sent) (F := Z1) (e := 88) memA).row (S.row (d := tBool) (xs := c.st.live) (F := Z2) (e := 4) memA).row (S.row (d := tBool) (xs := c.st.back) (F := Z3) (e := 4) memA).row (S.row (d := tInt) (xs := c.st.got) (F := Z4) (e := 3) memA).row J9) HB.out).mono ?_); rintro e w9 ⟨cs9, F9, rfl, h9, n9, b9, f9⟩; replace S := S.new (aOwn tSt _ cs9 F9) h9 n9 b9 f9; clear h9 n9 b9 f9; obtain ⟨A6, n6, A7, n7, A8, n8, A9, n9, rfl⟩ := S.shapeSt List.mem_cons_self)
    (first | refine hK.out _ _ (S.sub subA) (fun _ => ?_) | (go_wp2_with fail; refine hK.out _ _ (S.sub subA) (fun _ => ?_)))
    clear hK K
    (try simp only [Act.put, List.setIfInBounds_toArray, List.set_cons_zero, List.set_cons_succ])
    refine rdys [1, 5] ?_
    refine rdc 1 (fun K hK => ?_) ?_
    · (first | refine rgLd S ?_ | refine rgPt S ?_ | refine rgL1 S ?_)
      (first | refine hK.out _ _ (S.sub subA) (fun _ => ?_) | (go_wp2_with fail; refine hK.out _ _ (S.sub subA) (fun _ => ?_)))
      clear hK K
      (try simp only [Act.put, List.setIfInBounds_toArray, List.set_cons_zero, List.set_cons_succ])
      refine rdy1 5 (fun K hK => ?_)
      refine rgLit1 (d := tSt) 30 S delA ?_; clear S; intro g12 w9 z9 S
      (first | refine hK.out _ _ (S.sub subA) (fun _ => ?_) | (go_wp2_with fail; refine hK.out _ _ (S.sub subA) (fun _ => ?_)))
      clear hK K
      (try simp only [Act.put, List.setIfInBounds_toArray, List.set_cons_zero, List.set_cons_succ])
      refine rdy1 6 (fun K hK => ?_)
      refine rgApO (d := tSt) (xs := c.past) (ys := [c.st]) (us := c.past ++ [c.st]) S delA delA (.inl (by decide)) TL.out ?_; clear S; intro A13 c13 F13 w9 S
      (first | refine hK.out _ _ (S.sub subA) (fun _ => ?_) | (go_wp2_with fail; refine hK.out _ _ (S.sub subA) (fun _ => ?_)))
      clear hK K
      (try simp only [Act.put, List.setIfInBounds_toArray, List.set_cons_zero, List.set_cons_succ])
      refine tk 7 ?_
      (try simp only [Act.put, List.setIfInBounds_toArray, List.set_cons_zero, List.set_cons_succ])
      refine rdy1 8 (fun K hK => ?_)
      (first | refine rgS1 S ?_ | refine rgSt S ?_ | refine rgSp S ?_); clear S; intro w9 S
      (first | refine hK.out _ _ (S.sub subA) (fun _ => ?_) | (go_wp2_with fail; refine hK.out _ _ (S.sub subA) (fun _ => ?_)))
      clear hK K
      (try simp only [Act.put, List.setIfInBounds_toArray, List.set_cons_zero, List.set_cons_succ])
      refine wpAnyH_done (by kernel_rfl) ?_ _
      refine NoPanic.normal ?_
      go_wp2_with (first | ((with_reducible refine gate_box rfl ?_); refine aBx S ?_; clear S; intro g9 w9 z9 S) | ((with_reducible refine gate_alloc rfl ?_); refine aAl S ?_; clear S; intro g9 w9 z9 S) | ((with_reducible refine gate_load rfl ?_); first | refine aLd S ?_ | refine aPt S ?_ | refine aL1 S ?_) | ((with_reducible refine gate_st rfl ?_); (first | refine aS1 S ?_ | refine aSt S ?_ | refine aSp S ?_); clear S; intro w9 S))
      have S' := S.allCh ⟨c.id, c.bank, c.st, c.past ++ [c.st], c.knows⟩ I9 J9 h15
      (refine Sep.ret1 S rfl rfl memA Try.underlying33 rfl ts33 rfl ?_)
      rw [B0.out]
      exact ⟨_, _, rfl, S'.left [_]⟩
    refine rdc 5 (fun K hK => ?_) AllReadyH.nil
    refine rgLit1 (d := tSt) 30 S delA ?_; clear S; intro g12 w9 z9 S
    (first | refine hK.out _ _ (S.sub subA) (fun _ => ?_) | (go_wp2_with fail; refine hK.out _ _ (S.sub subA) (fun _ => ?_)))
    clear hK K
    (try simp only [Act.put, List.setIfInBounds_toArray, List.set_cons_zero, List.set_cons_succ])
    refine rdy1 1 (fun K hK => ?_)
    (first | refine rgLd S ?_ | refine rgPt S ?_ | refine rgL1 S ?_)
    (first | refine hK.out _ _ (S.sub subA) (fun _ => ?_) | (go_wp2_with fail; refine hK.out _ _ (S.sub subA) (fun _ => ?_)))
    clear hK K
    (try simp only [Act.put, List.setIfInBounds_toArray, List.set_cons_zero, List.set_cons_succ])
    refine rdy1 6 (fun K hK => ?_)
    refine rgApO (d := tSt) (xs := c.past) (ys := [c.st]) (us := c.past ++ [c.st]) S delA delA (.inl (by decide)) TL.out ?_; clear S; intro A13 c13 F13 w9 S
    (first | refine hK.out _ _ (S.sub subA) (fun _ => ?_) | (go_wp2_with fail; refine hK.out _ _ (S.sub subA) (fun _ => ?_)))
    clear hK K
    (try simp only [Act.put, List.setIfInBounds_toArray, List.set_cons_zero, List.set_cons_succ])
    refine tk 7 ?_
    (try simp only [Act.put, List.setIfInBounds_toArray, List.set_cons_zero, List.set_cons_succ])
    refine rdy1 8 (fun K hK => ?_)
    (first | refine rgS1 S ?_ | refine rgSt S ?_ | refine rgSp S ?_); clear S; intro w9 S
    (first | refine hK.out _ _ (S.sub subA) (fun _ => ?_) | (go_wp2_with fail; refine hK.out _ _ (S.sub subA) (fun _ => ?_)))
    clear hK K
    (try simp only [Act.put, List.setIfInBounds_toArray, List.set_cons_zero, List.set_cons_succ])
    refine wpAnyH_done (by kernel_rfl) ?_ _
    refine NoPanic.normal ?_
    go_wp2_with (first | ((with_reducible refine gate_box rfl ?_); refine aBx S ?_; clear S; intro g9 w9 z9 S) | ((with_reducible refine gate_alloc rfl ?_); refine aAl S ?_; clear S; intro g9 w9 z9 S) | ((with_reducible refine gate_load rfl ?_); first | refine aLd S ?_ | refine aPt S ?_ | refine aL1 S ?_) | ((with_reducible refine gate_st rfl ?_); (first | refine aS1 S ?_ | refine aSt S ?_ | refine aSp S ?_); clear S; intro w9 S))
    have S' := S.allCh ⟨c.id, c.bank, c.st, c.past ++ [c.st], c.knows⟩ I9 J9 h15
    (refine Sep.ret1 S rfl rfl memA Try.underlying33 rfl ts33 rfl ?_)
    rw [B0.out]
    exact ⟨_, _, rfl, S'.left [_]⟩
  · have d1 : decide ((c.past.length : Int) < 90) = false := decide_eq_false (by omega)
    have B0 := Lib.hid (blk_no hlt)
    clear hb hl hlt
    go_enter Try.func102, Try.ntmps102
    go_wp2_with (first | ((with_reducible refine gate_box rfl ?_); refine aBx S ?_; clear S; intro g9 w9 z9 S) | ((with_reducible refine gate_alloc rfl ?_); refine aAl S ?_; clear S; intro g9 w9 z9 S) | ((with_reducible refine gate_load rfl ?_); first | refine aLd S ?_ | refine aPt S ?_ | refine aL1 S ?_) | ((with_reducible refine gate_st rfl ?_); (first | refine aS1 S ?_ | refine aSt S ?_ | refine aSp S ?_); clear S; intro w9 S))
    have S' := S.allCh c I9 J9 h15
    (refine Sep.ret1 S rfl rfl memA Try.underlying33 rfl ts33 rfl ?_)
    rw [B0.out]
    exact ⟨_, _, rfl, S'.left [_]⟩
def chBlockV (c : Ch) : Ch := if okCh c = true then blk c else nilCh
set_option maxHeartbeats 3200000 in
theorem ChainBlock_c (w : World) (c : Ch) (c1 : List Value) (h1 : tCh.rd w c c1) : Calls Try.prog 47 #[.agg c1.toArray] w (RetOwn tCh (chBlockV c) w) := by
  have S := Sep.start w
  have FIN := Lib.hid (fun (W : World) (f : Fr w W) => tCh.fr f h1)
  have LN := Lib.hid (show c1.length = 13 from tCh.len h1)
  cases o1 : okCh c with
  | false =>
    have R := Lib.hid (show chBlockV c = nilCh by unfold chBlockV; rw [o1]; rfl)
    have O1 := Lib.hid o1
    clear o1 h1
    go_enter Try.func47, Try.ntmps47
    go_wp2_with (first
      | (go_at_call 19; (with_reducible refine (ChainOk_r _ c _ (FIN.out _ S.frame) O1.out).mono ?_); rintro e w9 ⟨rfl, f9⟩; replace S := S.fr f9; clear f9)
      | ((with_reducible refine gate_box rfl ?_); refine aBx S ?_; clear S; intro g9 w9 z9 S) | ((with_reducible refine gate_alloc rfl ?_); refine aAl S ?_; clear S; intro g9 w9 z9 S) | ((with_reducible refine gate_load rfl ?_); first | refine aLd S ?_ | refine aPt S ?_ | refine aL1 S ?_) | ((with_reducible refine gate_st rfl ?_); (first | refine aS1 S ?_ | refine aSt S ?_ | refine aSp S ?_); clear S; intro w9 S))
    have S' := S.nilCh
    (refine Sep.ret1 S rfl rfl memA Try.underlying33 rfl ts33 rfl ?_)
    rw [R.out]
    exact S'.retOwn List.mem_cons_self
  | true =>
    have R := Lib.hid (show chBlockV c = blk c by unfold chBlockV; rw [o1]; rfl)
    have HL := Lib.hid (okCh_parts o1).2.2.2.1
    have BL := Lib.hid (show (blk c).past.length ≤ 1000000 by have := blk_len HL.out; omega)
    have HS := Lib.hid (okSt_small (okCh_parts o1).2.2.1)
    have O1 := Lib.hid o1
    clear o1 h1
    go_enter Try.func47, Try.ntmps47
    go_wp2_with (first
      | (go_at_call 19; (with_reducible refine (ChainOk_r _ c _ (FIN.out _ S.frame) O1.out).mono ?_); rintro e w9 ⟨rfl, f9⟩; replace S := S.fr f9; clear f9)
      | (go_at_call 104; (with_reducible refine (linkOf_c _ c _ (FIN.out _ S.frame) O1.out).mono ?_); rintro e w9 ⟨g9, F9, rfl, T9⟩; replace S := S.call01 T9; clear T9)
      | (go_at_call 105; (with_reducible refine (block_c _ g9 c F9 (S.lnk memA) HS.out HL.out).mono ?_); rintro e w9 ⟨rfl, F8, T9⟩; replace S := S.callLnk1 delA T9; clear T9)
      | (go_at_call 65; (with_reducible refine (chain_c _ g9 (blk c) F8 (S.lnk memA) BL.out).mono ?_); rintro e w9 ⟨cs9, G9, rfl, T9⟩; replace S := S.callLnk1 delA T9; clear T9)
      | ((with_reducible refine gate_box rfl ?_); refine aBx S ?_; clear S; intro g9 w9 z9 S) | ((with_reducible refine gate_alloc rfl ?_); refine aAl S ?_; clear S; intro g9 w9 z9 S) | ((with_reducible refine gate_load rfl ?_); first | refine aLd S ?_ | refine aPt S ?_ | refine aL1 S ?_) | ((with_reducible refine gate_st rfl ?_); (first | refine aS1 S ?_ | refine aSt S ?_ | refine aSp S ?_); clear S; intro w9 S))
    (refine Sep.ret1 S rfl rfl memA Try.underlying33 rfl ts33 rfl ?_)
    rw [R.out]
    exact S.retOwn memA
set_option maxHeartbeats 3200000 in
theorem sChainBlock_c (w : World) (c : Ch) (c1 : List Value) (h1 : tCh.rd w c c1) : Calls Try.prog 46 #[.agg c1.toArray] w (RetOwn tCh (chBlockV c) w) := by
  have S := Sep.start w
  have FIN := Lib.hid (fun (W : World) (f : Fr w W) => tCh.fr f h1)
  have LN := Lib.hid (show c1.length = 13 from tCh.len h1)
  cases o1 : okCh c with
  | false =>
    have R := Lib.hid (show chBlockV c = nilCh by unfold chBlockV; rw [o1]; rfl)
    have O1 := Lib.hid o1
    clear o1 h1
    go_enter Try.func46, Try.ntmps46
    go_wp2_with (first
      | (go_at_call 33; (with_reducible refine (sChainOk_r _ c _ (FIN.out _ S.frame) O1.out).mono ?_); rintro e w9 ⟨rfl, f9⟩; replace S := S.fr f9; clear f9)
      | ((with_reducible refine gate_box rfl ?_); refine aBx S ?_; clear S; intro g9 w9 z9 S) | ((with_reducible refine gate_alloc rfl ?_); refine aAl S ?_; clear S; intro g9 w9 z9 S) | ((with_reducible refine gate_load rfl ?_); first | refine aLd S ?_ | refine aPt S ?_ | refine aL1 S ?_) | ((with_reducible refine gate_st rfl ?_); (first | refine aS1 S ?_ | refine aSt S ?_ | refine aSp S ?_); clear S; intro w9 S))
    have S' := S.nilCh
    (refine Sep.ret1 S rfl rfl memA Try.underlying33 rfl ts33 rfl ?_)
    rw [R.out]
    exact S'.retOwn List.mem_cons_self
  | true =>
    have R := Lib.hid (show chBlockV c = blk c by unfold chBlockV; rw [o1]; rfl)
    have HL := Lib.hid (okCh_parts o1).2.2.2.1
    have HS := Lib.hid (okSt_small (okCh_parts o1).2.2.1)
    have O1 := Lib.hid o1
    clear o1 h1
    go_enter Try.func46, Try.ntmps46
    go_wp2_with (first
      | (go_at_call 33; (with_reducible refine (sChainOk_r _ c _ (FIN.out _ S.frame) O1.out).mono ?_); rintro e w9 ⟨rfl, f9⟩; replace S := S.fr f9; clear f9)
      | (go_at_call 103; (with_reducible refine (l12Copy_c _ c _ (FIN.out _ S.frame) O1.out).mono ?_); rintro e w9 ⟨cs9, F9, rfl, h9, n9, b9, f9⟩; replace S := S.new (aOwn tCh _ cs9 F9) h9 n9 b9 f9; clear h9 n9 b9 f9)
      | (go_at_call 102; (with_reducible refine (l12Block_c _ c _ _ (S.ownOk memA) HS.out HL.out).mono ?_); rintro e w9 ⟨cs8, F8, rfl, T9⟩; replace S := S.callCh1 delA T9; clear T9)
      | ((with_reducible refine gate_box rfl ?_); refine aBx S ?_; clear S; intro g9 w9 z9 S) | ((with_reducible refine gate_alloc rfl ?_); refine aAl S ?_; clear S; intro g9 w9 z9 S) | ((with_reducible refine gate_load rfl ?_); first | refine aLd S ?_ | refine aPt S ?_ | refine aL1 S ?_) | ((with_reducible refine gate_st rfl ?_); (first | refine aS1 S ?_ | refine aSt S ?_ | refine aSp S ?_); clear S; intro w9 S))
    (refine Sep.ret1 S rfl rfl memA Try.underlying33 rfl ts33 rfl ?_)
    rw [R.out]
    exact S.retOwn memA
theorem ChainBlock_e (w : World) (c : Ch) (c1 : List Value) (h1 : tCh.rd w c c1) {x : Ch} (hR : chBlockV c = x) : Calls Try.prog 47 #[.agg c1.toArray] w (RetOwn tCh x w) := hR ▸ ChainBlock_c w c c1 h1
theorem sChainBlock_e (w : World) (c : Ch) (c1 : List Value) (h1 : tCh.rd w c c1) {x : Ch} (hR : chBlockV c = x) : Calls Try.prog 46 #[.agg c1.toArray] w (RetOwn tCh x w) := hR ▸ sChainBlock_c w c c1 h1
end Go.Proofs.Ytapdcgjccckjeaa
namespace Go.Proofs.Ytapdcgjccckjeaa
set_option maxRecDepth 100000
set_option linter.unusedVariables false
set_option linter.unusedSimpArgs false
open Go.RowKit
theorem Chg.setIn {a b : World} {g j : Nat} {u : Value} (h : Chg [g] a b) : Chg [g] a (b.setCell ⟨g, j, none⟩ u) := Chg.set h (.inl (by simp)) u
/-- A box that is read, another one that is written behind. -/
theorem held2 {w w' : World} {g1 g2 t1 : Nat} {cs1 : Array Value} (k1 : Box w g1 t1 cs1) (hne : g1 ≠ g2) (q : Chg [g2] w w') : (∀ j, w'.cell? ⟨g1, j, none⟩ = cs1[j]?) ∧ Chg [g2] w w' := ⟨(k1.chg q (fun h => hne (List.mem_singleton.1 h))).cells, q⟩
theorem flat_length {α : Type} {d : Ty α} (n : Nat) (css : List (List Value)) (h1 : css.length = n) (h2 : ∀ c ∈ css, c.length = d.sz) : css.flatten.length = n * d.sz := by
  subst h1
  induction css with
  | nil => simp
  | cons c cs ih =>
    simp only [List.flatten_cons, List.length_append, List.length_cons]
    rw [ih (fun x hx => h2 x (List.mem_cons_of_mem _ hx)), h2 c (List.mem_cons_self ..), Nat.succ_mul]
    omega
/-- Ints appended to an empty slice. -/
theorem step_app {P : Program} {ops : Array Oper} {o : Oper} {a : Act} {w : World} {K : Act → World → Prop} {Q : Exit → Act → World → Prop} {E : Prop}
    (hg : o.guard = none) (s x : Operand) (t : TypeId) (hop : o.op = Op.call { callee := Callee.builtin Builtin.append, args := #[s, x], argTypes := #[t, t] }) (e : TypeId) (i : TypeInfo)
    (h1 : P.underlying t = some (.slice e)) (h2 : P.info? e = some i) (h3 : i.zero = some (.int .i64 0)) (h4 : i.size = 1) (h5 : i.bytes = 8)
    (g : Nat) (hs : a.eval s = .slice (some ⟨g, 0, none⟩) 0 0) (v : Value) (xs : List Int) (hx : a.eval x = v) (h : tInt.row w v xs) (hpos : 0 < xs.length) (hle : xs.length ≤ 2097152)
    (hK : ∀ A c w' F, tInt.orow e w' (.slice A xs.length c) xs F → F.Nodup → (∀ q ∈ F, w.heap.size ≤ q) → Fr w w' → K (a.put o.dst (.slice A xs.length c)) w') :
    if Region.wanted o (yielded ops a.tmps) = true then Oper.wp P o a w K Q else E := by
  obtain ⟨A, c, rfl⟩ := h.val
  obtain ⟨ad, rfl, _⟩ := row_int_at h 0 hpos
  refine step_append_grows hg s x t hop e i (.int .i64 0) 1 8 h1 h2 h3 h4 h5 rfl (by decide) (some ⟨g, 0, none⟩) 0 0 [] hs (fun h0 => by cases h0) rfl (fun _ _ j u hj => by simp at hj) ad xs.length c (xs.map (.int .i64)) hx (by simp) ?_ ?_ (by omega) (by simp only [maxLen]; omega) (by omega) ?_
  · intro j u hj
    rw [List.getElem?_map] at hj
    cases hq : xs[j]? with
    | none => rw [hq] at hj; cases hj
    | some y =>
      rw [hq] at hj
      obtain ⟨hl, hy⟩ := List.getElem?_eq_some_iff.1 hq
      obtain ⟨ad', e', hc⟩ := row_int_at h j hl
      cases e'
      rw [hc, hy]
      exact hj
  · intro u hu
    obtain ⟨y, _, rfl⟩ := List.mem_map.1 hu
    rfl
  · intro v' w' hown hgr
    have hle2 : xs.length ≤ 2097152 := hle
    have he : ∀ ys : List Int, tInt.elems w' ys (ys.map (Value.int .i64)) [] := by
      intro ys
      induction ys with
      | nil => exact ⟨rfl, rfl⟩
      | cons y ys ih => exact ⟨[.int .i64 y], _, [], [], rfl, rfl, ⟨rfl, rfl⟩, ih⟩
    rw [Nat.zero_add, List.nil_append] at hown
    have hown0 : w'.ownsRow 0 e tInt.sz v' xs.length (xs.map (Value.int .i64)) := ⟨hown.1, hown.2.imp id (fun ⟨g, cap, cur, h0, _, rest⟩ => ⟨g, cap, cur, h0, Nat.zero_le _, rest⟩)⟩
    have ho : tInt.orow e w' v' xs (v'.ownBlock.toList ++ []) := Ty.orow.mk hle2 hown0 (he xs)
    obtain ⟨A', c', rfl⟩ := ho.row.val
    refine hK A' c' w' _ ho (ho.nodup tInt_flat) ?_ ⟨hgr.os, hgr.tape, hgr.output, hgr.size, fun k hk _ => hgr.block k hk (by simp)⟩
    intro q hq
    have hb := hown.2
    rcases hb with ⟨h0, _⟩ | ⟨g', cap', cur, h0, hlo, _⟩
    · rw [h0] at hq; simp [Value.ownBlock] at hq
    · rw [h0] at hq
      simp [Value.ownBlock] at hq
      omega
end Go.Proofs.Ytapdcgjccckjeaa
namespace Go.Proofs.Ytapdcgjccckjeaa
set_option maxRecDepth 100000
set_option linter.unusedVariables false
set_option linter.unusedSimpArgs false
open Go.RowKit
theorem minfo3 : (Try.prog.info? 3).map (fun i => (i.zero, i.size, i.bytes)) = some (some (.int .i64 0), 1, 8) := by kernel_rfl
theorem Box.set {w : World} {g t : Nat} {cs : Array Value} (h : Box w g t cs) (j : Nat) (u : Value) : Box (w.setCell ⟨g, j, none⟩ u) g t (cs.setIfInBounds j u) := ⟨by
  have hlt := h.lt
  have hb := h.blk
  simp only [World.setCell, Array.getElem?_modify, hb, if_true, Option.map_some, Option.isSome_none, Bool.false_eq_true, if_false]⟩
end Go.Proofs.Ytapdcgjccckjeaa
namespace Go.Proofs.Ytapdcgjccckjeaa
set_option maxRecDepth 100000
set_option linter.unusedVariables false
set_option linter.unusedSimpArgs false
open Go.RowKit

/-- What all have of a kind. -/
def lst (b : Bk) (k : Int) : List Int := if k = 1 then b.own else b.notes
def setLst (b : Bk) (k : Int) (xs : List Int) : Bk := if k = 1 then { b with own := xs } else { b with notes := xs }
def at0 (xs : List Int) (i : Nat) : Int := xs.getD i 0
def addAt (xs : List Int) (i : Nat) (s : Int) : List Int := xs.set i (at0 xs i + s)
def nilBk : Bk := ⟨[], [], 0⟩
/-- May coins be moved? -/
def mvOk (b : Bk) (k fr ds s : Int) : Bool := okBk b && decide (1 ≤ k ∧ k ≤ 2) && decide (1 ≤ fr ∧ fr ≤ 3) && decide (1 ≤ ds ∧ ds ≤ 3) && decide (0 ≤ s) && decide (s ≤ at0 (lst b k) (fr.toNat - 1))
def moveBk (b : Bk) (k fr ds s : Int) : Bk := setLst b k (addAt (addAt (lst b k) (fr.toNat - 1) (-s)) (ds.toNat - 1) s)
def moveR (b : Bk) (k fr ds s : Int) : Bk × Bool := if mvOk b k fr ds s = true then (moveBk b k fr ds s, true) else (nilBk, false)
theorem mvOk_eq {b : Bk} {k fr ds s : Int} (h1 : okBk b = true) (h2 : 1 ≤ k ∧ k ≤ 2) (h3 : 1 ≤ fr ∧ fr ≤ 3) (h4 : 1 ≤ ds ∧ ds ≤ 3) (h5 : 0 ≤ s) : mvOk b k fr ds s = decide (s ≤ at0 (lst b k) (fr.toNat - 1)) := by
  rw [mvOk, h1, decide_eq_true h2, decide_eq_true h3, decide_eq_true h4, decide_eq_true h5]; rfl
theorem moveR_yes {b : Bk} {k fr ds s : Int} (h1 : okBk b = true) (h2 : 1 ≤ k ∧ k ≤ 2) (h3 : 1 ≤ fr ∧ fr ≤ 3) (h4 : 1 ≤ ds ∧ ds ≤ 3) (h5 : 0 ≤ s) (h6 : s ≤ at0 (lst b k) (fr.toNat - 1)) : moveR b k fr ds s = (moveBk b k fr ds s, true) := by
  rw [moveR, if_pos (by rw [mvOk_eq h1 h2 h3 h4 h5]; exact decide_eq_true h6)]
theorem moveR_no {b : Bk} {k fr ds s : Int} (h1 : okBk b = true) (h2 : 1 ≤ k ∧ k ≤ 2) (h3 : 1 ≤ fr ∧ fr ≤ 3) (h4 : 1 ≤ ds ∧ ds ≤ 3) (h5 : 0 ≤ s) (h6 : ¬ s ≤ at0 (lst b k) (fr.toNat - 1)) : moveR b k fr ds s = (nilBk, false) := by
  rw [moveR, if_neg (by rw [mvOk_eq h1 h2 h3 h4 h5, decide_eq_false h6]; simp)]
theorem nilBk_own (w : World) : tBk.own w nilBk [.slice none 0 0, .slice none 0 0, .int .i64 0] [] := ⟨_, _, [], [], rfl, rfl, Ty.orow.nil _ _ _, Ty.orow.nil _ _ _, by decide, by decide⟩
theorem setLst_own {b : Bk} {k : Int} {xs : List Int} (h : xs.length = (lst b k).length) : (setLst b k xs).own.length = b.own.length ∧ (setLst b k xs).notes.length = b.notes.length := by
  unfold setLst lst at *
  split <;> simp_all

theorem l1List1_c (w : World) (v1 v2 v3 : Value) : Calls Try.prog 147 #[.agg #[v1, v2, v3], .int .i64 1] w (Ret v1 w) := by
  have f := Fr.refl w
  go_enter Try.func147, Try.ntmps147
  go_wp2_with (first
    | ((with_reducible refine gate_dst (N := 2) rfl ?_); refine wpList_box rfl _ _ rfl #[v1, v2, v3] rfl ?_; intro g_k1 w9 hg_k1 k1 f9; have zf_k1 := f.size; have hl_k1 := k1.lt; have z9 := f9.size; replace f := f.trans f9; (try clear r_k1); have r_k1 := k1.cells))
  go_ret
  exact ⟨rfl, f⟩
theorem l1List2_c (w : World) (v1 v2 v3 : Value) (k : Int) (hk : ¬ k = 1) : Calls Try.prog 147 #[.agg #[v1, v2, v3], .int .i64 k] w (Ret v2 w) := by
  have f := Fr.refl w
  have kk : (k == 1) = false := by simp [hk]
  go_enter Try.func147, Try.ntmps147
  go_wp2_with (first
    | ((with_reducible refine gate_dst (N := 2) rfl ?_); refine wpList_box rfl _ _ rfl #[v1, v2, v3] rfl ?_; intro g_k1 w9 hg_k1 k1 f9; have zf_k1 := f.size; have hl_k1 := k1.lt; have z9 := f9.size; replace f := f.trans f9; (try clear r_k1); have r_k1 := k1.cells))
  go_ret
  exact ⟨rfl, f⟩
theorem okL_at {xs : List Int} (h : okL xs = true) (i : Nat) (hi : i < xs.length) : 0 ≤ xs[i] ∧ xs[i] ≤ 30 := by
  simp only [okL, Bool.and_eq_true, List.all_eq_true] at h
  have := h.2 _ (List.getElem_mem hi)
  simpa [rng] using this
theorem results_cell_row2 {P : Program} {fn : Func} {p u : Tmp} {ty : TypeId} (h : fn.results = #[.cell p ty, .tmp u]) (tmps : Array Value) (w : World) (g : Nat) (t : TypeId) (cs : Array Value) (fr : Nat × Nat) (d : TypeDesc)
    (hp : tmps.getD p undef = .pointer (some ⟨g, 0, none⟩)) (hg : w.heap[g]? = some (.cells cs t fr))
    (hu : P.underlying ty = some d) (hd : (match d with | .struct _ | .array _ _ => true | _ => false) = true) (hi : (P.info? ty).map (·.size) = some cs.size) (v : Value) (hv : tmps.getD u undef = v) :
    (results fn tmps).run P w = .ok (.tuple #[.agg cs, v]) w := by
  subst hv
  have hp' : tmps[p]?.getD undef = .pointer (some ⟨g, 0, none⟩) := by simpa using hp
  simp [results, h, hp', asAddr, run_loadVar_row w g t ty cs fr d hg hu hd hi, Sem.run_bind, Result.andThen]
/-- A store into an owned slice of ints. -/
theorem wpList_ostore {P : Program} {ops : Array Oper} {rest : List Oper} {o : Oper} {a : Act} {Q : Exit → Act → World → Prop} {W : World} {e g n cap i : Nat} {xs : List Int} {F : List Nat} (h : tInt.orow e W (.slice (some ⟨g, 0, none⟩) n cap) xs F) (hi : i < xs.length)
    (hgd : o.guard = none) (ty : TypeId) (x y : Operand) (ho : o.op = .store ty x y) (hx : a.eval x = .pointer (some ⟨g, i, none⟩)) (z : Int) (hy : a.eval y = .int .i64 z) (hs : (P.info? ty).map (·.size) = some 1)
    (hK : ∀ w1, tInt.orow e w1 (.slice (some ⟨g, 0, none⟩) n cap) (xs.set i z) F → Chg F W w1 → wpList P ops Q rest (a.put o.dst undef) w1) : wpList P ops Q (o :: rest) a W := by
  obtain ⟨g', y', e1, hF, hc, hf, hset⟩ := orow_int_at h hi
  cases e1
  refine wpList_plain hgd fun K hK' => ?_
  have hk := hK' _ _ (hK _ (hset z) ((Chg.refl F W).set (.inl hF) _))
  cases hq : P.info? ty with
  | none => simp [hq] at hs
  | some info =>
    have h1 : info.size = 1 := by simpa [hq] using hs
    unfold Oper.wp execOp
    simp [ho, hx, hy, Instr.storeAt, Instr.sureAddr, storeVar, sizeOf, typeInfo, hq, h1, Value.cells]
    have ha : (⟨g, i, none⟩ : Addr).add 0 = ⟨g, i, none⟩ := rfl
    simp only [storeCells, Sem.run_bind, run_store_int, stored, ha, hc, hf, Bool.false_eq_true, if_false, Result.andThen_ok, Sem.run_pure]
    exact hk
theorem orow_cell {w : World} {e g n cap i : Nat} {xs : List Int} {F : List Nat} (h : tInt.orow e w (.slice (some ⟨g, 0, none⟩) n cap) xs F) (hi : i < xs.length) : w.cell? ⟨g, i, none⟩ = some (.int .i64 xs[i]) := by
  obtain ⟨ad, e1, hc⟩ := row_int_at h.row i hi
  cases e1
  have e2 : (⟨g, 0, none⟩ : Addr).add i = ⟨g, i, none⟩ := by unfold Addr.add; split <;> simp_all
  rw [e2] at hc
  exact hc
theorem orow_free {w : World} {e g n cap i : Nat} {xs : List Int} {F : List Nat} (h : tInt.orow e w (.slice (some ⟨g, 0, none⟩) n cap) xs F) (hi : i < xs.length) : w.frozen? ⟨g, i, none⟩ = false := by
  obtain ⟨g', y, e1, _, _, hf, _⟩ := orow_int_at h hi
  cases e1
  exact hf
theorem at0_get {xs : List Int} {i : Nat} (h : i < xs.length) : xs[i] = at0 xs i := by simp [at0, h]
theorem addAt_len (xs : List Int) (i : Nat) (s : Int) : (addAt xs i s).length = xs.length := by simp [addAt]
theorem at0_addAt (xs : List Int) (i j : Nat) (s : Int) (hj : j < xs.length) : at0 (addAt xs i s) j = if i = j then at0 xs i + s else at0 xs j := by
  simp only [addAt, at0, List.getD_eq_getElem?_getD, List.getElem?_set]
  split
  · rename_i h
    subst h
    simp [hj]
  · rfl
end Go.Proofs.Ytapdcgjccckjeaa
namespace Go.Proofs.Ytapdcgjccckjeaa
set_option maxRecDepth 100000
set_option linter.unusedVariables false
set_option linter.unusedSimpArgs false
open Go.RowKit
/-- May coins be taken away? -/
def awOk (b : Bk) (k fr s : Int) : Bool := okBk b && decide (1 ≤ k ∧ k ≤ 2) && decide (1 ≤ fr ∧ fr ≤ 3) && decide (0 ≤ s) && decide (s ≤ at0 (lst b k) (fr.toNat - 1))
def awayBk (b : Bk) (k fr s : Int) : Bk := if k = 1 then ⟨addAt b.own (fr.toNat - 1) (-s), b.notes, b.locked + s⟩ else ⟨b.own, addAt b.notes (fr.toNat - 1) (-s), b.locked⟩
def awayR (b : Bk) (k fr s : Int) : Bk × Bool := if awOk b k fr s = true then (awayBk b k fr s, true) else (nilBk, false)
theorem awOk_eq {b : Bk} {k fr s : Int} (h1 : okBk b = true) (h2 : 1 ≤ k ∧ k ≤ 2) (h3 : 1 ≤ fr ∧ fr ≤ 3) (h5 : 0 ≤ s) : awOk b k fr s = decide (s ≤ at0 (lst b k) (fr.toNat - 1)) := by
  rw [awOk, h1, decide_eq_true h2, decide_eq_true h3, decide_eq_true h5]; rfl
theorem awayR_yes {b : Bk} {k fr s : Int} (h1 : okBk b = true) (h2 : 1 ≤ k ∧ k ≤ 2) (h3 : 1 ≤ fr ∧ fr ≤ 3) (h5 : 0 ≤ s) (h6 : s ≤ at0 (lst b k) (fr.toNat - 1)) : awayR b k fr s = (awayBk b k fr s, true) := by
  rw [awayR, if_pos (by rw [awOk_eq h1 h2 h3 h5]; exact decide_eq_true h6)]
theorem awayR_no {b : Bk} {k fr s : Int} (h1 : okBk b = true) (h2 : 1 ≤ k ∧ k ≤ 2) (h3 : 1 ≤ fr ∧ fr ≤ 3) (h5 : 0 ≤ s) (h6 : ¬ s ≤ at0 (lst b k) (fr.toNat - 1)) : awayR b k fr s = (nilBk, false) := by
  rw [awayR, if_neg (by rw [awOk_eq h1 h2 h3 h5, decide_eq_false h6]; simp)]
theorem awayBk_len (b : Bk) (k fr s : Int) : (awayBk b k fr s).own.length = b.own.length ∧ (awayBk b k fr s).notes.length = b.notes.length := by
  unfold awayBk
  split <;> simp [addAt_len]
/-- May coins be given back? -/
def bkOk (b : Bk) (k ds s : Int) : Bool := okBk b && decide (1 ≤ k ∧ k ≤ 2) && decide (1 ≤ ds ∧ ds ≤ 3) && decide (0 ≤ s ∧ s ≤ 30) && (if k = 1 then decide (s ≤ b.locked) else decide (b.notes.sum + s ≤ 30))
def backBk (b : Bk) (k ds s : Int) : Bk := if k = 1 then ⟨addAt b.own (ds.toNat - 1) s, b.notes, b.locked - s⟩ else ⟨b.own, addAt b.notes (ds.toNat - 1) s, b.locked⟩
def backR (b : Bk) (k ds s : Int) : Bk × Bool := if bkOk b k ds s = true then (backBk b k ds s, true) else (nilBk, false)
theorem bkOk_eq {b : Bk} {k ds s : Int} (h1 : okBk b = true) (h2 : 1 ≤ k ∧ k ≤ 2) (h3 : 1 ≤ ds ∧ ds ≤ 3) (h5 : 0 ≤ s ∧ s ≤ 30) : bkOk b k ds s = (if k = 1 then decide (s ≤ b.locked) else decide (b.notes.sum + s ≤ 30)) := by
  rw [bkOk, h1, decide_eq_true h2, decide_eq_true h3, decide_eq_true h5]; rfl
theorem backBk_len (b : Bk) (k fr s : Int) : (backBk b k fr s).own.length = b.own.length ∧ (backBk b k fr s).notes.length = b.notes.length := by
  unfold backBk
  split <;> simp [addAt_len]
/-- A call that writes its own struct, and hands it back with a Bool. -/
def RetIn {α : Type} (d : Ty α) (x : α) (r : Bool) (F : List Nat) (w : World) : Ending → World → Prop := fun en w' => ∃ cs, en = .returned (.tuple #[.agg cs.toArray, .bool r]) ∧ d.own w' x cs F ∧ Chg F w w'
end Go.Proofs.Ytapdcgjccckjeaa
namespace Go.Proofs.Ytapdcgjccckjeaa
set_option maxRecDepth 100000
set_option linter.unusedVariables false
set_option linter.unusedSimpArgs false
open Go.RowKit
theorem okBk_split {b : Bk} (h : okBk b = true) : okL b.own = true ∧ okL b.notes = true ∧ 0 ≤ b.locked ∧ b.own.sum + b.locked = 30 ∧ b.notes.sum ≤ 30 := by
  simp only [okBk, Bool.and_eq_true, decide_eq_true_eq] at h
  exact ⟨h.1.1.1.1, h.1.1.1.2, h.1.1.2, h.1.2, h.2⟩
end Go.Proofs.Ytapdcgjccckjeaa
namespace Go.Proofs.Ytapdcgjccckjeaa
set_option maxRecDepth 100000
set_option linter.unusedVariables false
set_option linter.unusedSimpArgs false
open Go.RowKit
set_option maxHeartbeats 3200000 in
theorem l1Away_c (w : World) (b : Bk) (cs : List Value) (F : List Nat) (h1 : tBk.own w b cs F) (hn : F.Nodup) (hok : okBk b = true) (k fr s : Int) (hk : 1 ≤ k ∧ k ≤ 2) (hf : 1 ≤ fr ∧ fr ≤ 3) (hs : 0 ≤ s) (hs2 : s ≤ 9223372036854775807) :
    Calls Try.prog 132 #[.agg cs.toArray, .int .i64 k, .int .i64 fr, .int .i64 s] w (RetIn tBk (if s ≤ at0 (lst b k) (fr.toNat - 1) then awayBk b k fr s else b) (decide (s ≤ at0 (lst b k) (fr.toNat - 1))) F w) := by
  obtain ⟨o1, o2, F1, F2, rfl, rfl, ho1, ho2, h13⟩ := h1
  obtain ⟨q1, q2, q3, q4, q5⟩ := okBk_split hok
  have ln1 := okL_len q1
  have ln2 := okL_len q2
  have sb1 := sum_bd q1
  obtain ⟨g1, cp1, e1⟩ := ho1.shape (by omega)
  obtain ⟨g2, cp2, e2⟩ := ho2.shape (by omega)
  rw [ln1] at e1
  rw [ln2] at e2
  subst e1 e2
  have hb1 : ∀ q ∈ F1, 0 ≤ q := fun q _ => Nat.zero_le q
  have hb2 : ∀ q ∈ F2, 0 ≤ q := fun q _ => Nat.zero_le q
  have hu1 := ho1.lt
  have hu2 := ho2.lt
  have DJ := (List.nodup_append.1 hn).2.2
  have f := Chg.refl (F1 ++ F2) w
  rcases (by omega : k = 1 ∨ k = 2) with rfl | rfl
  · skip
    have bx := okL_get q1 (fr.toNat - 1) (by omega)
    rw [at0_get (by omega)] at bx
    rw [show lst b 1 = b.own from rfl]
    obtain ⟨x, hx⟩ : ∃ x, at0 b.own (fr.toNat - 1) = x := ⟨_, rfl⟩
    rw [hx] at bx ⊢
    have LI := Lib.hid (show fr.toNat - 1 < b.own.length by omega)
    by_cases hlt : x < s
    · have HX := Lib.hid hx
      clear hx ln1 ln2
      rw [if_neg (by omega), decide_eq_false (by omega)]
      go_enter Try.func132, Try.ntmps132
      go_wp2_with (first
        | ((with_reducible refine gate_dst (N := 4) rfl ?_); refine wpList_box rfl _ _ rfl #[.slice (some ⟨g1, 0, none⟩) 3 cp1, .slice (some ⟨g2, 0, none⟩) 3 cp2, .int .i64 b.locked] rfl ?_; intro g_k4 w9 hg_k4 k4 f9; have zf_k4 := f.size; have hl_k4 := k4.lt; have z9 := f9.size; replace f := f.fr f9; (try replace ho1 := ho1.fr f9); (try replace ho2 := ho2.fr f9); (try (replace k8 := k8.fr f9; (try clear r_k8); have r_k8 := k8.cells)); (try clear r_k4); have r_k4 := k4.cells)
        | ((with_reducible refine gate_dst (N := 8) rfl ?_); refine wpList_alloc rfl _ rfl _ (zero26 _) #[.slice none 0 0, .slice none 0 0, .int .i64 0] rfl ?_; intro g_k8 w9 hg_k8 k8 f9; have zf_k8 := f.size; have hl_k8 := k8.lt; have z9 := f9.size; replace f := f.fr f9; (try replace ho1 := ho1.fr f9); (try replace ho2 := ho2.fr f9); (try (replace k4 := k4.fr f9; (try clear r_k4); have r_k4 := k4.cells)); (try clear r_k8); have r_k8 := k8.cells)
        | ((with_reducible refine gate_dst (N := 11) rfl ?_); refine wpList_bload k4 rfl _ _ rfl 0 3 rfl _ Try.underlying26 rfl size26 (by simp) #[.slice (some ⟨g1, 0, none⟩) 3 cp1, .slice (some ⟨g2, 0, none⟩) 3 cp2, .int .i64 b.locked] rfl ?_)
        | (go_at_call 147; (with_reducible refine (l1List1_c _ (.slice (some ⟨g1, 0, none⟩) 3 cp1) (.slice (some ⟨g2, 0, none⟩) 3 cp2) (.int .i64 b.locked)).mono ?_); rintro e w9 ⟨rfl, f9⟩; have z9 := f9.size; replace f := f.fr f9; (try replace ho1 := ho1.fr f9); (try replace ho2 := ho2.fr f9); (try (replace k4 := k4.fr f9; (try clear r_k4); have r_k4 := k4.cells)); (try (replace k8 := k8.fr f9; (try clear r_k8); have r_k8 := k8.cells)); have hcy := orow_cell ho1 (i := fr.toNat - 1) LI.out; rw [at0_get LI.out, HX.out] at hcy)
        | ((with_reducible refine gate_dst (N := 21) rfl ?_); refine wpList_bload k4 rfl _ _ rfl 0 3 rfl _ Try.underlying26 rfl size26 (by simp) #[.slice (some ⟨g1, 0, none⟩) 3 cp1, .slice (some ⟨g2, 0, none⟩) 3 cp2, .int .i64 b.locked] rfl ?_)
        | ((with_reducible refine gate_store (p := 8) rfl ?_); refine wpList_bstore k8 rfl _ _ _ rfl 0 3 rfl (.agg #[.slice (some ⟨g1, 0, none⟩) 3 cp1, .slice (some ⟨g2, 0, none⟩) 3 cp2, .int .i64 b.locked]) rfl #[.slice (some ⟨g1, 0, none⟩) 3 cp1, .slice (some ⟨g2, 0, none⟩) 3 cp2, .int .i64 b.locked] rfl rfl size26 (by simp) (by intro u hu; simp at hu; rcases hu with rfl | rfl | rfl; exact ho1.one; exact ho2.one; rfl) #[.slice (some ⟨g1, 0, none⟩) 3 cp1, .slice (some ⟨g2, 0, none⟩) 3 cp2, .int .i64 b.locked] rfl ?_; intro w9 k9 c9; have z9 := c9.size; replace f := f.trans c9 (fun q hq => .inr (by have := List.mem_singleton.1 hq; have := f.size; omega)); (try replace ho1 := ho1.chg c9 (fun q hq hm => by have := hb1 q hq; have := hu1 q hq; have := List.mem_singleton.1 hm; omega)); (try replace ho2 := ho2.chg c9 (fun q hq hm => by have := hb2 q hq; have := hu2 q hq; have := List.mem_singleton.1 hm; omega)); (try (replace k4 := k4.chg c9 (fun hm => by have := List.mem_singleton.1 hm; omega); (try clear r_k4); have r_k4 := k4.cells)); replace k8 := k9; clear k9; (try clear r_k8); have r_k8 := k8.cells))
      exact bodyPost_ret (v := .tuple #[.agg #[.slice (some ⟨g1, 0, none⟩) 3 cp1, .slice (some ⟨g2, 0, none⟩) 3 cp2, .int .i64 b.locked], .bool false]) (results_cell_row2 rfl _ _ g_k8 _ _ _ _ rfl k8.blk Try.underlying26 rfl size26 _ rfl) rfl ⟨[.slice (some ⟨g1, 0, none⟩) 3 cp1, .slice (some ⟨g2, 0, none⟩) 3 cp2, .int .i64 b.locked], rfl, ⟨_, _, F1, F2, rfl, rfl, ho1, ho2, h13⟩, f⟩
    have hle : s ≤ x := by omega
    have ltf : decide (x < s) = false := decide_eq_false hlt
    rw [if_pos hle, decide_eq_true hle]
    obtain ⟨ys, hys⟩ : ∃ ys, addAt b.own (fr.toNat - 1) (-s) = ys := ⟨_, rfl⟩
    have hy1 : b.own.set (fr.toNat - 1) (x - s) = ys := by rw [← hys, addAt, hx, show x - s = x + -s from Int.sub_eq_add_neg]
    rw [show awayBk b 1 fr s = (⟨ys, b.notes, b.locked + s⟩ : Bk) by rw [← hys]; rfl]
    have HX := Lib.hid hx
    have HY := Lib.hid hy1
    clear hx hy1 hys ln1 ln2
    have hI : I64 (b.locked + s) := by unfold I64; omega
    go_enter Try.func132, Try.ntmps132
    go_wp2_with (first
      | ((with_reducible refine gate_dst (N := 4) rfl ?_); refine wpList_box rfl _ _ rfl #[.slice (some ⟨g1, 0, none⟩) 3 cp1, .slice (some ⟨g2, 0, none⟩) 3 cp2, .int .i64 b.locked] rfl ?_; intro g_k4 w9 hg_k4 k4 f9; have zf_k4 := f.size; have hl_k4 := k4.lt; have z9 := f9.size; replace f := f.fr f9; (try replace ho1 := ho1.fr f9); (try replace ho2 := ho2.fr f9); (try (replace k8 := k8.fr f9; (try clear r_k8); have r_k8 := k8.cells)); (try clear r_k4); have r_k4 := k4.cells)
      | ((with_reducible refine gate_dst (N := 8) rfl ?_); refine wpList_alloc rfl _ rfl _ (zero26 _) #[.slice none 0 0, .slice none 0 0, .int .i64 0] rfl ?_; intro g_k8 w9 hg_k8 k8 f9; have zf_k8 := f.size; have hl_k8 := k8.lt; have z9 := f9.size; replace f := f.fr f9; (try replace ho1 := ho1.fr f9); (try replace ho2 := ho2.fr f9); (try (replace k4 := k4.fr f9; (try clear r_k4); have r_k4 := k4.cells)); (try clear r_k8); have r_k8 := k8.cells)
      | ((with_reducible refine gate_dst (N := 11) rfl ?_); refine wpList_bload k4 rfl _ _ rfl 0 3 rfl _ Try.underlying26 rfl size26 (by simp) #[.slice (some ⟨g1, 0, none⟩) 3 cp1, .slice (some ⟨g2, 0, none⟩) 3 cp2, .int .i64 b.locked] rfl ?_)
      | (go_at_call 147; (with_reducible refine (l1List1_c _ (.slice (some ⟨g1, 0, none⟩) 3 cp1) (.slice (some ⟨g2, 0, none⟩) 3 cp2) (.int .i64 b.locked)).mono ?_); rintro e w9 ⟨rfl, f9⟩; have z9 := f9.size; replace f := f.fr f9; (try replace ho1 := ho1.fr f9); (try replace ho2 := ho2.fr f9); (try (replace k4 := k4.fr f9; (try clear r_k4); have r_k4 := k4.cells)); (try (replace k8 := k8.fr f9; (try clear r_k8); have r_k8 := k8.cells)); have hcy := orow_cell ho1 (i := fr.toNat - 1) LI.out; rw [at0_get LI.out, HX.out] at hcy)
      | ((with_reducible refine gate_store (p := 32) rfl ?_); refine wpList_ostore ho1 (i := fr.toNat - 1) LI.out rfl _ _ _ rfl rfl (x - s) rfl size3 ?_; intro w9 h9 c9; rw [HY.out] at h9; have z9 := c9.size; replace f := f.trans c9 (fun q hq => .inl (List.mem_append_left _ hq)); replace ho1 := h9; clear h9; replace ho2 := ho2.chg c9 (fun q hq hm => DJ q hm q hq rfl); replace k4 := k4.chg c9 (fun hm => by have := hu1 _ hm; omega); replace k8 := k8.chg c9 (fun hm => by have := hu1 _ hm; omega); (try clear r_k4); (try clear r_k8); have r_k4 := k4.cells; (try clear hcy))
      | ((with_reducible refine gate_store (p := 39) rfl ?_); refine wpList_bstore1 k4 rfl _ _ _ rfl 2 rfl (.int .i64 (b.locked + s)) rfl (rfl) size3 (by simp) #[.slice (some ⟨g1, 0, none⟩) 3 cp1, .slice (some ⟨g2, 0, none⟩) 3 cp2, .int .i64 (b.locked + s)] rfl ?_; intro w9 k9 c9; have z9 := c9.size; replace f := f.trans c9 (fun q hq => .inr (by have := List.mem_singleton.1 hq; have := f.size; omega)); (try replace ho1 := ho1.chg c9 (fun q hq hm => by have := hb1 q hq; have := hu1 q hq; have := List.mem_singleton.1 hm; omega)); (try replace ho2 := ho2.chg c9 (fun q hq hm => by have := hb2 q hq; have := hu2 q hq; have := List.mem_singleton.1 hm; omega)); (try (replace k8 := k8.chg c9 (fun hm => by have := List.mem_singleton.1 hm; omega); (try clear r_k8); have r_k8 := k8.cells)); replace k4 := k9; clear k9; (try clear r_k4); have r_k4 := k4.cells)
      | ((with_reducible refine gate_dst (N := 40) rfl ?_); refine wpList_bload k4 rfl _ _ rfl 0 3 rfl _ Try.underlying26 rfl size26 (by simp) #[.slice (some ⟨g1, 0, none⟩) 3 cp1, .slice (some ⟨g2, 0, none⟩) 3 cp2, .int .i64 (b.locked + s)] rfl ?_)
      | ((with_reducible refine gate_store (p := 8) rfl ?_); refine wpList_bstore k8 rfl _ _ _ rfl 0 3 rfl (.agg #[.slice (some ⟨g1, 0, none⟩) 3 cp1, .slice (some ⟨g2, 0, none⟩) 3 cp2, .int .i64 (b.locked + s)]) rfl #[.slice (some ⟨g1, 0, none⟩) 3 cp1, .slice (some ⟨g2, 0, none⟩) 3 cp2, .int .i64 (b.locked + s)] rfl rfl size26 (by simp) (by intro u hu; simp at hu; rcases hu with rfl | rfl | rfl; exact ho1.one; exact ho2.one; rfl) #[.slice (some ⟨g1, 0, none⟩) 3 cp1, .slice (some ⟨g2, 0, none⟩) 3 cp2, .int .i64 (b.locked + s)] rfl ?_; intro w9 k9 c9; have z9 := c9.size; replace f := f.trans c9 (fun q hq => .inr (by have := List.mem_singleton.1 hq; have := f.size; omega)); (try replace ho1 := ho1.chg c9 (fun q hq hm => by have := hb1 q hq; have := hu1 q hq; have := List.mem_singleton.1 hm; omega)); (try replace ho2 := ho2.chg c9 (fun q hq hm => by have := hb2 q hq; have := hu2 q hq; have := List.mem_singleton.1 hm; omega)); (try (replace k4 := k4.chg c9 (fun hm => by have := List.mem_singleton.1 hm; omega); (try clear r_k4); have r_k4 := k4.cells)); replace k8 := k9; clear k9; (try clear r_k8); have r_k8 := k8.cells))
    exact bodyPost_ret (v := .tuple #[.agg #[.slice (some ⟨g1, 0, none⟩) 3 cp1, .slice (some ⟨g2, 0, none⟩) 3 cp2, .int .i64 (b.locked + s)], .bool true]) (results_cell_row2 rfl _ _ g_k8 _ _ _ _ rfl k8.blk Try.underlying26 rfl size26 _ rfl) rfl ⟨[.slice (some ⟨g1, 0, none⟩) 3 cp1, .slice (some ⟨g2, 0, none⟩) 3 cp2, .int .i64 (b.locked + s)], rfl, ⟨_, _, F1, F2, rfl, rfl, ho1, ho2, hI⟩, f⟩
  · skip
    have bx := okL_get q2 (fr.toNat - 1) (by omega)
    rw [at0_get (by omega)] at bx
    rw [show lst b 2 = b.notes from rfl]
    obtain ⟨x, hx⟩ : ∃ x, at0 b.notes (fr.toNat - 1) = x := ⟨_, rfl⟩
    rw [hx] at bx ⊢
    have LI := Lib.hid (show fr.toNat - 1 < b.notes.length by omega)
    by_cases hlt : x < s
    · have HX := Lib.hid hx
      clear hx ln1 ln2
      rw [if_neg (by omega), decide_eq_false (by omega)]
      go_enter Try.func132, Try.ntmps132
      go_wp2_with (first
        | ((with_reducible refine gate_dst (N := 4) rfl ?_); refine wpList_box rfl _ _ rfl #[.slice (some ⟨g1, 0, none⟩) 3 cp1, .slice (some ⟨g2, 0, none⟩) 3 cp2, .int .i64 b.locked] rfl ?_; intro g_k4 w9 hg_k4 k4 f9; have zf_k4 := f.size; have hl_k4 := k4.lt; have z9 := f9.size; replace f := f.fr f9; (try replace ho1 := ho1.fr f9); (try replace ho2 := ho2.fr f9); (try (replace k8 := k8.fr f9; (try clear r_k8); have r_k8 := k8.cells)); (try clear r_k4); have r_k4 := k4.cells)
        | ((with_reducible refine gate_dst (N := 8) rfl ?_); refine wpList_alloc rfl _ rfl _ (zero26 _) #[.slice none 0 0, .slice none 0 0, .int .i64 0] rfl ?_; intro g_k8 w9 hg_k8 k8 f9; have zf_k8 := f.size; have hl_k8 := k8.lt; have z9 := f9.size; replace f := f.fr f9; (try replace ho1 := ho1.fr f9); (try replace ho2 := ho2.fr f9); (try (replace k4 := k4.fr f9; (try clear r_k4); have r_k4 := k4.cells)); (try clear r_k8); have r_k8 := k8.cells)
        | ((with_reducible refine gate_dst (N := 11) rfl ?_); refine wpList_bload k4 rfl _ _ rfl 0 3 rfl _ Try.underlying26 rfl size26 (by simp) #[.slice (some ⟨g1, 0, none⟩) 3 cp1, .slice (some ⟨g2, 0, none⟩) 3 cp2, .int .i64 b.locked] rfl ?_)
        | (go_at_call 147; (with_reducible refine (l1List2_c _ (.slice (some ⟨g1, 0, none⟩) 3 cp1) (.slice (some ⟨g2, 0, none⟩) 3 cp2) (.int .i64 b.locked) 2 (by decide)).mono ?_); rintro e w9 ⟨rfl, f9⟩; have z9 := f9.size; replace f := f.fr f9; (try replace ho1 := ho1.fr f9); (try replace ho2 := ho2.fr f9); (try (replace k4 := k4.fr f9; (try clear r_k4); have r_k4 := k4.cells)); (try (replace k8 := k8.fr f9; (try clear r_k8); have r_k8 := k8.cells)); have hcy := orow_cell ho2 (i := fr.toNat - 1) LI.out; rw [at0_get LI.out, HX.out] at hcy)
        | ((with_reducible refine gate_dst (N := 21) rfl ?_); refine wpList_bload k4 rfl _ _ rfl 0 3 rfl _ Try.underlying26 rfl size26 (by simp) #[.slice (some ⟨g1, 0, none⟩) 3 cp1, .slice (some ⟨g2, 0, none⟩) 3 cp2, .int .i64 b.locked] rfl ?_)
        | ((with_reducible refine gate_store (p := 8) rfl ?_); refine wpList_bstore k8 rfl _ _ _ rfl 0 3 rfl (.agg #[.slice (some ⟨g1, 0, none⟩) 3 cp1, .slice (some ⟨g2, 0, none⟩) 3 cp2, .int .i64 b.locked]) rfl #[.slice (some ⟨g1, 0, none⟩) 3 cp1, .slice (some ⟨g2, 0, none⟩) 3 cp2, .int .i64 b.locked] rfl rfl size26 (by simp) (by intro u hu; simp at hu; rcases hu with rfl | rfl | rfl; exact ho1.one; exact ho2.one; rfl) #[.slice (some ⟨g1, 0, none⟩) 3 cp1, .slice (some ⟨g2, 0, none⟩) 3 cp2, .int .i64 b.locked] rfl ?_; intro w9 k9 c9; have z9 := c9.size; replace f := f.trans c9 (fun q hq => .inr (by have := List.mem_singleton.1 hq; have := f.size; omega)); (try replace ho1 := ho1.chg c9 (fun q hq hm => by have := hb1 q hq; have := hu1 q hq; have := List.mem_singleton.1 hm; omega)); (try replace ho2 := ho2.chg c9 (fun q hq hm => by have := hb2 q hq; have := hu2 q hq; have := List.mem_singleton.1 hm; omega)); (try (replace k4 := k4.chg c9 (fun hm => by have := List.mem_singleton.1 hm; omega); (try clear r_k4); have r_k4 := k4.cells)); replace k8 := k9; clear k9; (try clear r_k8); have r_k8 := k8.cells))
      exact bodyPost_ret (v := .tuple #[.agg #[.slice (some ⟨g1, 0, none⟩) 3 cp1, .slice (some ⟨g2, 0, none⟩) 3 cp2, .int .i64 b.locked], .bool false]) (results_cell_row2 rfl _ _ g_k8 _ _ _ _ rfl k8.blk Try.underlying26 rfl size26 _ rfl) rfl ⟨[.slice (some ⟨g1, 0, none⟩) 3 cp1, .slice (some ⟨g2, 0, none⟩) 3 cp2, .int .i64 b.locked], rfl, ⟨_, _, F1, F2, rfl, rfl, ho1, ho2, h13⟩, f⟩
    have hle : s ≤ x := by omega
    have ltf : decide (x < s) = false := decide_eq_false hlt
    rw [if_pos hle, decide_eq_true hle]
    obtain ⟨ys, hys⟩ : ∃ ys, addAt b.notes (fr.toNat - 1) (-s) = ys := ⟨_, rfl⟩
    have hy1 : b.notes.set (fr.toNat - 1) (x - s) = ys := by rw [← hys, addAt, hx, show x - s = x + -s from Int.sub_eq_add_neg]
    rw [show awayBk b 2 fr s = (⟨b.own, ys, b.locked⟩ : Bk) by rw [← hys]; rfl]
    have HX := Lib.hid hx
    have HY := Lib.hid hy1
    clear hx hy1 hys ln1 ln2
    have hI : I64 (b.locked) := by unfold I64; exact h13
    go_enter Try.func132, Try.ntmps132
    go_wp2_with (first
      | ((with_reducible refine gate_dst (N := 4) rfl ?_); refine wpList_box rfl _ _ rfl #[.slice (some ⟨g1, 0, none⟩) 3 cp1, .slice (some ⟨g2, 0, none⟩) 3 cp2, .int .i64 b.locked] rfl ?_; intro g_k4 w9 hg_k4 k4 f9; have zf_k4 := f.size; have hl_k4 := k4.lt; have z9 := f9.size; replace f := f.fr f9; (try replace ho1 := ho1.fr f9); (try replace ho2 := ho2.fr f9); (try (replace k8 := k8.fr f9; (try clear r_k8); have r_k8 := k8.cells)); (try clear r_k4); have r_k4 := k4.cells)
      | ((with_reducible refine gate_dst (N := 8) rfl ?_); refine wpList_alloc rfl _ rfl _ (zero26 _) #[.slice none 0 0, .slice none 0 0, .int .i64 0] rfl ?_; intro g_k8 w9 hg_k8 k8 f9; have zf_k8 := f.size; have hl_k8 := k8.lt; have z9 := f9.size; replace f := f.fr f9; (try replace ho1 := ho1.fr f9); (try replace ho2 := ho2.fr f9); (try (replace k4 := k4.fr f9; (try clear r_k4); have r_k4 := k4.cells)); (try clear r_k8); have r_k8 := k8.cells)
      | ((with_reducible refine gate_dst (N := 11) rfl ?_); refine wpList_bload k4 rfl _ _ rfl 0 3 rfl _ Try.underlying26 rfl size26 (by simp) #[.slice (some ⟨g1, 0, none⟩) 3 cp1, .slice (some ⟨g2, 0, none⟩) 3 cp2, .int .i64 b.locked] rfl ?_)
      | (go_at_call 147; (with_reducible refine (l1List2_c _ (.slice (some ⟨g1, 0, none⟩) 3 cp1) (.slice (some ⟨g2, 0, none⟩) 3 cp2) (.int .i64 b.locked) 2 (by decide)).mono ?_); rintro e w9 ⟨rfl, f9⟩; have z9 := f9.size; replace f := f.fr f9; (try replace ho1 := ho1.fr f9); (try replace ho2 := ho2.fr f9); (try (replace k4 := k4.fr f9; (try clear r_k4); have r_k4 := k4.cells)); (try (replace k8 := k8.fr f9; (try clear r_k8); have r_k8 := k8.cells)); have hcy := orow_cell ho2 (i := fr.toNat - 1) LI.out; rw [at0_get LI.out, HX.out] at hcy)
      | ((with_reducible refine gate_store (p := 32) rfl ?_); refine wpList_ostore ho2 (i := fr.toNat - 1) LI.out rfl _ _ _ rfl rfl (x - s) rfl size3 ?_; intro w9 h9 c9; rw [HY.out] at h9; have z9 := c9.size; replace f := f.trans c9 (fun q hq => .inl (List.mem_append_right _ hq)); replace ho2 := h9; clear h9; replace ho1 := ho1.chg c9 (fun q hq hm => DJ q hq q hm rfl); replace k4 := k4.chg c9 (fun hm => by have := hu2 _ hm; omega); replace k8 := k8.chg c9 (fun hm => by have := hu2 _ hm; omega); (try clear r_k4); (try clear r_k8); have r_k4 := k4.cells; (try clear hcy))
      | ((with_reducible refine gate_dst (N := 40) rfl ?_); refine wpList_bload k4 rfl _ _ rfl 0 3 rfl _ Try.underlying26 rfl size26 (by simp) #[.slice (some ⟨g1, 0, none⟩) 3 cp1, .slice (some ⟨g2, 0, none⟩) 3 cp2, .int .i64 b.locked] rfl ?_)
      | ((with_reducible refine gate_store (p := 8) rfl ?_); refine wpList_bstore k8 rfl _ _ _ rfl 0 3 rfl (.agg #[.slice (some ⟨g1, 0, none⟩) 3 cp1, .slice (some ⟨g2, 0, none⟩) 3 cp2, .int .i64 b.locked]) rfl #[.slice (some ⟨g1, 0, none⟩) 3 cp1, .slice (some ⟨g2, 0, none⟩) 3 cp2, .int .i64 b.locked] rfl rfl size26 (by simp) (by intro u hu; simp at hu; rcases hu with rfl | rfl | rfl; exact ho1.one; exact ho2.one; rfl) #[.slice (some ⟨g1, 0, none⟩) 3 cp1, .slice (some ⟨g2, 0, none⟩) 3 cp2, .int .i64 b.locked] rfl ?_; intro w9 k9 c9; have z9 := c9.size; replace f := f.trans c9 (fun q hq => .inr (by have := List.mem_singleton.1 hq; have := f.size; omega)); (try replace ho1 := ho1.chg c9 (fun q hq hm => by have := hb1 q hq; have := hu1 q hq; have := List.mem_singleton.1 hm; omega)); (try replace ho2 := ho2.chg c9 (fun q hq hm => by have := hb2 q hq; have := hu2 q hq; have := List.mem_singleton.1 hm; omega)); (try (replace k4 := k4.chg c9 (fun hm => by have := List.mem_singleton.1 hm; omega); (try clear r_k4); have r_k4 := k4.cells)); replace k8 := k9; clear k9; (try clear r_k8); have r_k8 := k8.cells))
    exact bodyPost_ret (v := .tuple #[.agg #[.slice (some ⟨g1, 0, none⟩) 3 cp1, .slice (some ⟨g2, 0, none⟩) 3 cp2, .int .i64 b.locked], .bool true]) (results_cell_row2 rfl _ _ g_k8 _ _ _ _ rfl k8.blk Try.underlying26 rfl size26 _ rfl) rfl ⟨[.slice (some ⟨g1, 0, none⟩) 3 cp1, .slice (some ⟨g2, 0, none⟩) 3 cp2, .int .i64 b.locked], rfl, ⟨_, _, F1, F2, rfl, rfl, ho1, ho2, hI⟩, f⟩
end Go.Proofs.Ytapdcgjccckjeaa
namespace Go.Proofs.Ytapdcgjccckjeaa
set_option maxRecDepth 100000
set_option linter.unusedVariables false
set_option linter.unusedSimpArgs false
open Go.RowKit Go.Instr

def ents : Nat → List Int → List MapEntry
  | _, [] => []
  | i, x :: xs => ⟨.int .i64 ((i + 1 : Nat) : Int), .int .i64 x, i⟩ :: ents (i + 1) xs
/-- Block g is the map from 1, 2, .. to the ints of xs. -/
def MapI (w : World) (g : Nat) (xs : List Int) : Prop := ∃ c, w.heap[g]? = some (.map (ents 0 xs).toArray c)
theorem MapI.fr {w w' : World} {g : Nat} {xs : List Int} (h : MapI w g xs) (f : Fr w w') : MapI w' g xs := by obtain ⟨c, hc⟩ := h; exact ⟨c, f.heap hc⟩
theorem MapI.lt {w : World} {g : Nat} {xs : List Int} (h : MapI w g xs) : g < w.heap.size := by obtain ⟨c, hc⟩ := h; exact (Array.getElem?_eq_some_iff.1 hc).1
theorem MapI.chg {F : List Nat} {w w' : World} {g : Nat} {xs : List Int} (h : MapI w g xs) (f : Chg F w w') (hg : g ∉ F) : MapI w' g xs := by
  have hl := h.lt
  obtain ⟨c, hc⟩ := h
  exact ⟨c, (f.block g hl hg).trans hc⟩
theorem ents_length : ∀ (i : Nat) (xs : List Int), (ents i xs).length = xs.length
  | _, [] => rfl
  | i, x :: xs => by simp [ents, ents_length]
theorem findNow_hit : ∀ (xs : List Int) (i j k : Nat) (hk : k < xs.length), findNow (.int .i64) (.int .i64 ((i + k + 1 : Nat) : Int)) (ents i xs) j = some (some (j + k, .int .i64 xs[k]))
  | x :: xs, i, j, 0, _ => by simp [ents, findNow, sameNow]
  | x :: xs, i, j, k + 1, hk => by
    have h1 : ¬ ((i : Int) + ((k : Int) + 1) + 1 = (i : Int) + 1) := by omega
    have ih := findNow_hit xs (i + 1) (j + 1) k (by simpa using hk)
    have e1 : ((i + 1 + k + 1 : Nat) : Int) = ((i + (k + 1) + 1 : Nat) : Int) := by omega
    rw [e1] at ih
    simp only [ents, findNow, sameNow, if_true]
    have h2 : (((i + (k + 1) + 1 : Nat) : Int) == ((i + 1 : Nat) : Int)) = false := by
      rw [beq_eq_false_iff_ne]; omega
    rw [h2]
    simp only []
    rw [ih]
    simp only [List.getElem_cons_succ, Option.some.injEq, Prod.mk.injEq, and_true]
    omega
theorem findNow_miss : ∀ (xs : List Int) (i j m : Nat), i + xs.length ≤ m → findNow (.int .i64) (.int .i64 ((m + 1 : Nat) : Int)) (ents i xs) j = some none
  | [], i, j, m, _ => rfl
  | x :: xs, i, j, m, hm => by
    simp only [List.length_cons] at hm
    have h2 : (((m + 1 : Nat) : Int) == ((i + 1 : Nat) : Int)) = false := by
      rw [beq_eq_false_iff_ne]; omega
    simp only [ents, findNow, sameNow, if_true, h2]
    exact findNow_miss xs (i + 1) (j + 1) m (by omega)
theorem ents_set : ∀ (xs : List Int) (i k : Nat) (y : Int) (hk : k < xs.length), (ents i xs).modify k (fun e => { e with key := .int .i64 ((i + k + 1 : Nat) : Int), val := .int .i64 y }) = ents i (xs.set k y)
  | x :: xs, i, 0, y, _ => by simp [ents]
  | x :: xs, i, k + 1, y, hk => by
    simp only [ents, List.modify_succ_cons, List.set_cons_succ, List.cons.injEq, true_and]
    rw [← ents_set xs (i + 1) k y (by simpa using hk)]
    congr 1
    funext e
    congr 3
    omega
theorem ents_key : ∀ (xs : List Int) (i k : Nat) (hk : k < xs.length), ((ents i xs)[k]?).map (·.key) = some (.int .i64 ((i + k + 1 : Nat) : Int))
  | x :: xs, i, 0, _ => by simp [ents]
  | x :: xs, i, k + 1, hk => by
    simp only [ents, List.getElem?_cons_succ]
    rw [ents_key xs (i + 1) k (by simpa using hk)]
    congr 3
    omega
theorem ents_push : ∀ (xs : List Int) (i : Nat) (y : Int), ents i xs ++ [⟨.int .i64 ((i + xs.length + 1 : Nat) : Int), .int .i64 y, i + xs.length⟩] = ents i (xs ++ [y])
  | [], i, y => by simp [ents]
  | x :: xs, i, y => by
    simp only [ents, List.cons_append, List.length_cons]
    rw [← ents_push xs (i + 1) y]
    rw [show i + (xs.length + 1) + 1 = i + 1 + xs.length + 1 by omega, show i + (xs.length + 1) = i + 1 + xs.length by omega]
section
variable {P : Program} {w : World} {g t kt et : Nat} {xs : List Int}
theorem run_checkKey (e : Bool) (n : Nat) (hk : P.underlying kt = some (.int .i64)) (v : Int) : (checkKey e (n + 1) kt (.int .i64 v)).run P w = .ok () w := by
  unfold checkKey
  rw [Sem.run_bind, run_underlying hk w]
  rfl
theorem run_find (hk : P.underlying kt = some (.int .i64)) (v : Int) (es : List MapEntry) (r : Option (Nat × Value)) (h : findNow (.int .i64) (.int .i64 v) es 0 = some r) : (findKey kt (.int .i64 v) es).run P w = .ok r w := by
  unfold findKey
  rw [Sem.run_bind, run_underlying hk w, Result.andThen_ok, h]
  rfl
theorem run_look (ht : P.underlying t = some (.map kt et)) (hk : P.underlying kt = some (.int .i64)) (h : MapI w g xs) (k : Nat) (hkl : k < xs.length) (v : Int) (hv : v = ((k + 1 : Nat) : Int)) :
    (Instr.lookup t (.map (some g)) (.int .i64 v) false).run P w = .ok (.int .i64 xs[k]) w := by
  obtain ⟨c, hb⟩ := h
  have hf := findNow_hit xs 0 0 k hkl
  rw [Nat.zero_add, ← hv] at hf
  have hg : (getObj g).run P w = .ok (.map (ents 0 xs).toArray c) w := by simp [getObj, Sem.run, hb]
  unfold Instr.lookup
  rw [Sem.run_bind, run_underlying ht w, Result.andThen_ok]
  simp only [Sem.run_bind, hg, Result.andThen_ok, Sem.run_pure, run_checkKey _ _ hk, run_find hk _ _ _ hf]
  rfl
theorem setMap_chg (w : World) (g : Nat) (o : Obj) (hg : g < w.heap.size) : Chg [g] w { w with heap := w.heap.set! g o } := ⟨rfl, rfl, rfl, by simp, fun k hk hF => by
  have : g ≠ k := fun e => hF (by simp [e])
  simp [Array.set!_eq_setIfInBounds, Array.getElem?_setIfInBounds_ne this]⟩
theorem run_mapset (ht : P.underlying t = some (.map kt et)) (hk : P.underlying kt = some (.int .i64)) (h : MapI w g xs) (k : Nat) (hkl : k < xs.length) (v y : Int) (hv : v = ((k + 1 : Nat) : Int)) :
    ∃ w', (Instr.mapUpdate t (.map (some g)) (.int .i64 v) (.int .i64 y)).run P w = .ok () w' ∧ MapI w' g (xs.set k y) ∧ Chg [g] w w' := by
  have hl := h.lt
  obtain ⟨c, hb⟩ := h
  have hf := findNow_hit xs 0 0 k hkl
  have hs := ents_set xs 0 k y hkl
  have hkey := ents_key xs 0 k hkl
  simp only [Nat.zero_add] at hf hs hkey
  rw [← hv] at hf hs hkey
  have hg : (getObj g).run P w = .ok (.map (ents 0 xs).toArray c) w := by simp [getObj, Sem.run, hb]
  refine ⟨_, ?_, ?_, setMap_chg w g (.map (ents 0 (xs.set k y)).toArray c) hl⟩
  · unfold Instr.mapUpdate
    rw [Sem.run_bind, run_underlying ht w, Result.andThen_ok]
    simp only [Sem.run_bind, hg, Result.andThen_ok, run_checkKey _ _ hk, run_find hk _ _ _ hf]
    simp [keyThatStays, sameBits, hkey, setObj, Sem.run, hs, hb]
  · exact ⟨c, by simp [hl]⟩
theorem run_mappush (ht : P.underlying t = some (.map kt et)) (hk : P.underlying kt = some (.int .i64)) (c : Nat) (hb : w.heap[g]? = some (.map (ents 0 xs).toArray c)) (hc : c = xs.length) (v y : Int) (hv : v = ((xs.length + 1 : Nat) : Int)) :
    ∃ w', (Instr.mapUpdate t (.map (some g)) (.int .i64 v) (.int .i64 y)).run P w = .ok () w' ∧ w'.heap[g]? = some (.map (ents 0 (xs ++ [y])).toArray (c + 1)) ∧ Chg [g] w w' := by
  have hl : g < w.heap.size := (Array.getElem?_eq_some_iff.1 hb).1
  have hf := findNow_miss xs 0 0 xs.length (by omega)
  have hs := ents_push xs 0 y
  simp only [Nat.zero_add] at hs
  rw [← hv] at hf hs
  have hg : (getObj g).run P w = .ok (.map (ents 0 xs).toArray c) w := by simp [getObj, Sem.run, hb]
  refine ⟨_, ?_, ?_, setMap_chg w g (.map (ents 0 (xs ++ [y])).toArray (c + 1)) hl⟩
  · unfold Instr.mapUpdate
    rw [Sem.run_bind, run_underlying ht w, Result.andThen_ok]
    simp only [Sem.run_bind, hg, Result.andThen_ok, run_checkKey _ _ hk, run_find hk _ _ _ hf]
    subst hc
    simp [setObj, Sem.run, hb, hs]
  · simp [hl]
theorem gate_map {P : Program} {ops : Array Oper} {rest : List Oper} {o : Oper} {a : Act} {Q : Exit → Act → World → Prop} {W : World} {t : TypeId} {m k v : Operand} (_ho : o.op = .mapUpdate t m k v) (h : wpList P ops Q (o :: rest) a W) : wpList P ops Q (o :: rest) a W := h
/-- At the operations. -/
theorem wpList_look {ops : Array Oper} {rest : List Oper} {o : Oper} {a : Act} {Q : Exit → Act → World → Prop} (hg : o.guard = none) (m x : Operand) (hop : o.op = Op.lookup t m x false) (ht : P.underlying t = some (.map kt et)) (hk : P.underlying kt = some (.int .i64))
    (hm : a.eval m = .map (some g)) (h : MapI w g xs) (k : Nat) (hkl : k < xs.length) (v : Int) (hx : a.eval x = .int .i64 v) (hv : v = ((k + 1 : Nat) : Int)) (hK : wpList P ops Q rest (a.put o.dst (.int .i64 xs[k])) w) : wpList P ops Q (o :: rest) a w := by
  refine wpList_plain hg fun K' hK' => ?_
  have hrun := run_look ht hk h k hkl v hv
  unfold Oper.wp
  simp [execOp, hop, hm, hx, hrun, Result.andThen]
  exact hK' _ _ hK
theorem wpList_lookv {ops : Array Oper} {rest : List Oper} {o : Oper} {a : Act} {Q : Exit → Act → World → Prop} (hg : o.guard = none) (m x : Operand) (hop : o.op = Op.lookup t m x false) (ht : P.underlying t = some (.map kt et)) (hk : P.underlying kt = some (.int .i64))
    (hm : a.eval m = .map (some g)) (h : MapI w g xs) (k : Nat) (hkl : k < xs.length) (z : Int) (hz : xs.getD k 0 = z) (v : Int) (hx : a.eval x = .int .i64 v) (hv : v = ((k + 1 : Nat) : Int)) (hK : wpList P ops Q rest (a.put o.dst (.int .i64 z)) w) : wpList P ops Q (o :: rest) a w := by
  have e : xs[k] = z := by rw [← hz]; simp [hkl]
  exact wpList_look hg m x hop ht hk hm h k hkl v hx hv (by rw [e]; exact hK)
theorem wpList_mapset {ops : Array Oper} {rest : List Oper} {o : Oper} {a : Act} {Q : Exit → Act → World → Prop} (hg : o.guard = none) (m x z : Operand) (hop : o.op = Op.mapUpdate t m x z) (ht : P.underlying t = some (.map kt et)) (hk : P.underlying kt = some (.int .i64))
    (hm : a.eval m = .map (some g)) (h : MapI w g xs) (k : Nat) (hkl : k < xs.length) (v y : Int) (hx : a.eval x = .int .i64 v) (hz : a.eval z = .int .i64 y) (hv : v = ((k + 1 : Nat) : Int))
    (hK : ∀ w', MapI w' g (xs.set k y) → Chg [g] w w' → wpList P ops Q rest (a.put o.dst undef) w') : wpList P ops Q (o :: rest) a w := by
  refine wpList_plain hg fun K' hK' => ?_
  obtain ⟨w', hrun, r1, r2⟩ := run_mapset ht hk h k hkl v y hv
  unfold Oper.wp
  simp [execOp, hop, hm, hx, hz, hrun, Result.andThen]
  exact hK' _ _ (hK w' r1 r2)
theorem wpList_mappush {ops : Array Oper} {rest : List Oper} {o : Oper} {a : Act} {Q : Exit → Act → World → Prop} (hg : o.guard = none) (m x z : Operand) (hop : o.op = Op.mapUpdate t m x z) (ht : P.underlying t = some (.map kt et)) (hk : P.underlying kt = some (.int .i64))
    (hm : a.eval m = .map (some g)) (c : Nat) (hb : w.heap[g]? = some (.map (ents 0 xs).toArray c)) (hc : c = xs.length) (v y : Int) (hx : a.eval x = .int .i64 v) (hz : a.eval z = .int .i64 y) (hv : v = ((xs.length + 1 : Nat) : Int))
    (hK : ∀ w', w'.heap[g]? = some (.map (ents 0 (xs ++ [y])).toArray (c + 1)) → Chg [g] w w' → wpList P ops Q rest (a.put o.dst undef) w') : wpList P ops Q (o :: rest) a w := by
  refine wpList_plain hg fun K' hK' => ?_
  obtain ⟨w', hrun, r1, r2⟩ := run_mappush ht hk c hb hc v y hv
  unfold Oper.wp
  simp [execOp, hop, hm, hx, hz, hrun, Result.andThen]
  exact hK' _ _ (hK w' r1 r2)
end
end Go.Proofs.Ytapdcgjccckjeaa
namespace Go.Proofs.Ytapdcgjccckjeaa
set_option maxRecDepth 100000
set_option linter.unusedVariables false
set_option linter.unusedSimpArgs false
open Go.RowKit
def RetMap (xs : List Int) (w : World) : Ending → World → Prop := fun e w' => ∃ g, e = .returned (.map (some g)) ∧ MapI w' g xs ∧ w.heap.size ≤ g ∧ Fr w w'
set_option maxHeartbeats 1600000 in
theorem amountMap_c (w : World) (v : Value) (xs : List Int) (h : tInt.row w v xs) (hl : xs.length = 3) : Calls Try.prog 158 #[v] w (RetMap xs w) := by
  obtain ⟨A, c, rfl⟩ : ∃ A c, v = .slice A 3 c := by obtain ⟨A, c, h'⟩ := h.val; exact ⟨A, c, by rw [h', hl]⟩
  have HL := Lib.hid hl
  have hmm : ∀ W : World, (Instr.makeMap 166 (some (.int .i64 3))).run Try.prog W = .ok (.map (some W.heap.size)) (W.alloc (.map #[] 0)) := fun _ => by kernel_rfl
  go_enter Try.func158, Try.ntmps158
  go_wp2
  go_loopw [4, 5, 9] (fun _ _ i wr => ∃ k : Nat, k ≤ 3 ∧ i = .int .i64 k ∧ wr.heap[w.heap.size]? = some (.map (ents 0 (xs.take k)).toArray k) ∧ Fr w wr) (fun _ _ i _ => 3 - (intOf i).toNat)
  case atStart => exact ⟨0, by omega, rfl, heap_alloc_new w _, (Fr.refl w).alloc _⟩
  case round =>
    obtain ⟨k, hk, rfl, hb, f⟩ := hrel
    by_cases hlt : k < 3
    · have hlk := Lib.hid (show k < xs.length by omega)
      obtain ⟨ad, rfl, hc⟩ := row_int_at h k hlk.out
      have hc' := f.cell hc
      have p1 : (k : Int) < 3 := by omega
      have htl : (xs.take k).length = k := by rw [List.length_take]; have := hlk.out; omega
      have HT := Lib.hid htl
      clear htl hc hl
      go_wp2_with ((with_reducible refine gate_map rfl ?_); refine wpList_mappush rfl _ _ _ rfl Try.underlying166 Try.underlying3 rfl k hb HT.out.symm _ _ rfl rfl (by rw [HT.out]; omega) ?_; intro w9 hb9 c9; have f9 := f.own c9 (fun q hq => by rw [List.mem_singleton.1 hq]; exact Nat.le_refl _))
      go_roundw
      case rel => exact ⟨k + 1, by omega, by go_num, by rw [List.take_succ_eq_append_getElem hlk.out]; exact hb9, f9⟩
      case measure => simp [intOf]; omega
    · obtain rfl : k = 3 := by omega
      go_wp2
      go_ret
      exact ⟨_, rfl, ⟨3, by rw [List.take_of_length_le (by have := HL.out; omega)] at hb; exact hb⟩, Nat.le_refl _, f⟩
theorem step_list (xs : List Int) (k : Nat) (h : k < xs.length) (hl : xs.length = 3) : (xs.take k ++ List.replicate (3 - k) 0).set k xs[k] = xs.take (k + 1) ++ List.replicate (3 - (k + 1)) 0 := by
  match xs, hl with
  | [a, b, c], _ => rcases (by simp at h; omega : k = 0 ∨ k = 1 ∨ k = 2) with rfl | rfl | rfl <;> rfl
theorem lsize3 : (Try.prog.info? 3).map (·.size) = some 1 := by kernel_rfl
set_option maxHeartbeats 1600000 in
theorem amountList_c (w : World) (g : Nat) (xs : List Int) (h : MapI w g xs) (hl : xs.length = 3) : Calls Try.prog 159 #[.map (some g)] w (RetRow tInt 3 xs w) := by
  have hmk : ∀ W : World, (Instr.makeSlice 24 (.int .i64 3) (.int .i64 3)).run Try.prog W = .ok (.slice (some ⟨W.heap.size, 0, none⟩) 3 3) (W.alloc (.cells #[.int .i64 0, .int .i64 0, .int .i64 0] 3)) := fun _ => by kernel_rfl
  have HL := Lib.hid hl
  go_enter Try.func159, Try.ntmps159
  go_wp2
  go_loopw [4, 8] (fun _ i wr => ∃ k : Nat, k ≤ 3 ∧ i = .int .i64 k ∧ tInt.orow 3 wr (.slice (some ⟨w.heap.size, 0, none⟩) 3 3) (xs.take k ++ List.replicate (3 - k) 0) [w.heap.size] ∧ Fr w wr) (fun _ i _ => 3 - (intOf i).toNat)
  case atStart => exact ⟨0, by omega, rfl, orow_of_heap (xs := [0, 0, 0]) rfl (by decide) (heap_alloc_new w _), (Fr.refl w).alloc _⟩
  case round =>
    obtain ⟨k, hk, rfl, ho, f⟩ := hrel
    by_cases hlt : k < 3
    · have hlk := Lib.hid (show k < xs.length by omega)
      have hm := h.fr f
      have p1 : (k : Int) < 3 := by omega
      have hk2 := Lib.hid (show k < (xs.take k ++ List.replicate (3 - k) 0).length by simp; omega)
      have hst := Lib.hid (step_list xs k hlk.out hl)
      clear hl
      go_wp2_with (first
        | ((with_reducible refine gate_dst (N := 16) rfl ?_); refine wpList_look rfl _ _ rfl Try.underlying166 Try.underlying3 rfl hm k hlk.out _ rfl (by omega) ?_)
        | ((with_reducible refine gate_store (p := 17) rfl ?_); refine wpList_ostore ho (i := k) hk2.out rfl _ _ _ rfl rfl xs[k] rfl lsize3 ?_; intro w9 ho9 c9; replace ho9 := Eq.mp (congrArg (fun l => tInt.orow _ w9 _ l _) hst.out) ho9; have f9 := f.own c9 (fun q hq => by rw [List.mem_singleton.1 hq]; exact Nat.le_refl _)))
      go_roundw
      case rel => exact ⟨k + 1, by omega, by go_num, ho9, f9⟩
      case measure => simp [intOf]; omega
    · obtain rfl : k = 3 := by omega
      go_wp2
      go_ret
      exact ⟨_, [w.heap.size], rfl, by rw [List.take_of_length_le (by have := HL.out; omega), show 3 - 3 = 0 from rfl, List.replicate_zero, List.append_nil] at ho; exact ho, by simp, by simp, f⟩

theorem ownCoins_c (w : World) (a b c : Value) : Calls Try.prog 156 #[.agg #[a, b, c]] w (Ret a w) := by
  have f := Fr.refl w
  go_enter Try.func156, Try.ntmps156
  go_wp2_with (((with_reducible refine gate_dst (N := 1) rfl ?_); refine wpList_box rfl _ _ rfl #[a, b, c] rfl ?_; intro g_k1 w9 hg_k1 k1 f9; have zf_k1 := f.size; have hl_k1 := k1.lt; have z9 := f9.size; replace f := f.trans f9; (try clear r_k1); have r_k1 := k1.cells))
  go_ret
  exact ⟨rfl, f⟩
theorem noteCoins_c (w : World) (a b c : Value) : Calls Try.prog 157 #[.agg #[a, b, c]] w (Ret b w) := by
  have f := Fr.refl w
  go_enter Try.func157, Try.ntmps157
  go_wp2_with (((with_reducible refine gate_dst (N := 1) rfl ?_); refine wpList_box rfl _ _ rfl #[a, b, c] rfl ?_; intro g_k1 w9 hg_k1 k1 f9; have zf_k1 := f.size; have hl_k1 := k1.lt; have z9 := f9.size; replace f := f.trans f9; (try clear r_k1); have r_k1 := k1.cells))
  go_ret
  exact ⟨rfl, f⟩
/-- Which coins. -/
def coinsV (k : Int) : Value := if k = 1 then .tuple #[.func (.func 156) #[] #[], .bool true] else if k = 2 then .tuple #[.func (.func 157) #[] #[], .bool true] else .tuple #[.nilFunc, .bool false]
theorem coinsOf_c (w : World) (k : Int) : Calls Try.prog 148 #[.int .i64 k] w fun e w' => e = .returned (coinsV k) ∧ w = w' := by
  by_cases h1 : k = 1
  · subst h1
    go_enter Try.func148, Try.ntmps148
    go_wp2
    go_ret2
    exact ⟨rfl, rfl⟩
  · by_cases h2 : k = 2
    · subst h2
      go_enter Try.func148, Try.ntmps148
      go_wp2
      go_ret2
      exact ⟨rfl, rfl⟩
    · have k1 : (k == 1) = false := by simp [h1]
      have k2 : (k == 2) = false := by simp [h2]
      go_enter Try.func148, Try.ntmps148
      go_wp2
      go_ret2
      exact ⟨by simp [coinsV, h1, h2], rfl⟩
end Go.Proofs.Ytapdcgjccckjeaa
namespace Go.Proofs.Ytapdcgjccckjeaa
set_option maxRecDepth 100000
set_option linter.unusedVariables false
set_option linter.unusedSimpArgs false
open Go.RowKit
theorem lzero168 (w : World) : (zeroValue 168).run Try.prog w = .ok (.agg #[.map none, .map none, .int .i64 0]) w := by kernel_rfl
theorem lsize168 : (Try.prog.info? 168).map (·.size) = some 3 := by kernel_rfl
def RetLedger (b : Bk) (w : World) : Ending → World → Prop := fun e w' => ∃ g1 g2, e = .returned (.agg #[.map (some g1), .map (some g2), .int .i64 b.locked]) ∧ MapI w' g1 b.own ∧ MapI w' g2 b.notes ∧ g1 ≠ g2 ∧ w.heap.size ≤ g1 ∧ w.heap.size ≤ g2 ∧ Fr w w'
set_option maxHeartbeats 1600000 in
theorem ledgerOf_c (w : World) (b : Bk) (c1 : List Value) (h1 : tBk.rd w b c1) (hl : b.own.length = 3 ∧ b.notes.length = 3) : Calls Try.prog 149 #[.agg c1.toArray] w (RetLedger b w) := by
  obtain ⟨v1, v2, rfl, h11, h12, h13⟩ := h1
  have HL := Lib.hid hl
  clear hl
  have f := Fr.refl w
  go_enter Try.func149, Try.ntmps149
  go_upto_region 1 with (first
    | ((with_reducible refine gate_dst (N := 1) rfl ?_); refine wpList_box rfl _ _ rfl #[v1, v2, .int .i64 b.locked] rfl ?_; intro g_k1 w9 hg_k1 k1 f9; have zf_k1 := f.size; have hl_k1 := k1.lt; have z9 := f9.size; replace f := f.trans f9; (try (replace k2 := k2.fr f9; (try clear r_k2); have r_k2 := k2.cells)); (try clear r_k1); have r_k1 := k1.cells)
    | ((with_reducible refine gate_dst (N := 2) rfl ?_); refine wpList_alloc rfl _ rfl _ (lzero168 _) #[.map none, .map none, .int .i64 0] rfl ?_; intro g_k2 w9 hg_k2 k2 f9; have zf_k2 := f.size; have hl_k2 := k2.lt; have z9 := f9.size; replace f := f.trans f9; (try (replace k1 := k1.fr f9; (try clear r_k1); have r_k1 := k1.cells)); (try clear r_k2); have r_k2 := k2.cells))
  simp only [Act.put, List.setIfInBounds_toArray, List.set_cons_zero, List.set_cons_succ]
  have hne : g_k1 ≠ g_k2 := by omega
  go_region_held_law (fun w' => (∀ j, w'.cell? ⟨g_k1, j, none⟩ = #[v1, v2, .int .i64 b.locked][j]?) ∧ Chg [g_k2] w9 w')
    (first | (go_split_ands; refine held2 k1 hne ?_; repeat (first | exact Chg.refl _ _ | assumption | exact Fr.chg (by assumption) | apply Chg.drew | apply Chg.alloc | (apply Chg.setIn) | (refine Chg.fr ?_ (by assumption)))))
    (first
      | (go_at_call 158; go_split_ands; (with_reducible refine (amountMap_c _ v1 b.own (h11.fr (f.own (by assumption) (fun q hq => by have := List.mem_singleton.1 hq; omega))) HL.out.1).mono ?_); rintro e w8 ⟨ga, rfl, ma, la, f8⟩; have r8 := (k2.fr (show Fr w9 w8 by repeat (first | exact Fr.refl _ | assumption | apply Fr.drew | apply Fr.alloc | (refine Fr.trans ?_ (by assumption))))).cells; have s8 := (k2.fr (show Fr w9 w8 by repeat (first | exact Fr.refl _ | assumption | apply Fr.drew | apply Fr.alloc | (refine Fr.trans ?_ (by assumption))))).free; have ta := ma.lt)
      | (go_at_call 158; go_split_ands; (with_reducible refine (amountMap_c _ v2 b.notes (h12.fr (f.own (by assumption) (fun q hq => by have := List.mem_singleton.1 hq; omega))) HL.out.2).mono ?_); rintro e w8 ⟨gb, rfl, mb, lb, f8⟩; have r8 := (k2.fr (show Fr w9 w8 by repeat (first | exact Fr.refl _ | assumption | apply Fr.drew | apply Fr.alloc | (refine Fr.trans ?_ (by assumption))))).cells; have s8 := (k2.fr (show Fr w9 w8 by repeat (first | exact Fr.refl _ | assumption | apply Fr.drew | apply Fr.alloc | (refine Fr.trans ?_ (by assumption))))).free; have tb := mb.lt))
  all_goals
    have lo3 : w9.heap.size ≤ ga := Nat.le_trans (Chg.size (F := []) (by repeat (first | exact Fr.refl _ | assumption | apply Fr.drew | apply Fr.alloc | (refine Fr.trans ?_ (by assumption))))) la
    have lo7 : w9.heap.size ≤ gb := Nat.le_trans (Chg.size (F := []) (by repeat (first | exact Fr.refl _ | assumption | apply Fr.drew | apply Fr.alloc | (refine Fr.trans ?_ (by assumption))))) lb
    have dj : ga ≠ gb := by
      simp only [World.drew] at la lb ta tb
      omega
    go_wp2
    exact bodyPost_ret (v := .agg #[.map (some ga), .map (some gb), .int .i64 b.locked]) (results_cell_row rfl _ _ g_k2 _ _ _ _ rfl ((((k2.fr (show Fr w9 w8 by repeat (first | exact Fr.refl _ | assumption | apply Fr.drew | apply Fr.alloc | (refine Fr.trans ?_ (by assumption))))).set 0 (.map (some ga))).set 1 (.map (some gb))).set 2 (.int .i64 b.locked)).blk Try.underlying168 rfl lsize168) rfl
      ⟨ga, gb, rfl, (ma.fr (show Fr _ w8 by repeat (first | exact Fr.refl _ | assumption | apply Fr.drew | apply Fr.alloc | (refine Fr.trans ?_ (by assumption))))).chg (show Chg [g_k2] w8 _ by repeat (first | exact Chg.refl _ _ | assumption | exact Fr.chg (by assumption) | apply Chg.drew | apply Chg.alloc | (apply Chg.setIn) | (refine Chg.fr ?_ (by assumption)))) (fun hm => by have := List.mem_singleton.1 hm; omega), (mb.fr (show Fr _ w8 by repeat (first | exact Fr.refl _ | assumption | apply Fr.drew | apply Fr.alloc | (refine Fr.trans ?_ (by assumption))))).chg (show Chg [g_k2] w8 _ by repeat (first | exact Chg.refl _ _ | assumption | exact Fr.chg (by assumption) | apply Chg.drew | apply Chg.alloc | (apply Chg.setIn) | (refine Chg.fr ?_ (by assumption)))) (fun hm => by have := List.mem_singleton.1 hm; omega), dj, by omega, by omega,
        f.own (show Chg [g_k2] w9 _ by repeat (first | exact Chg.refl _ _ | assumption | exact Fr.chg (by assumption) | apply Chg.drew | apply Chg.alloc | (apply Chg.setIn) | (refine Chg.fr ?_ (by assumption)))) (fun q hq => by have := List.mem_singleton.1 hq; omega)⟩

set_option maxHeartbeats 1600000 in
theorem ledgerBank_c (w : World) (g1 g2 : Nat) (xs ys : List Int) (l : Int) (m1 : MapI w g1 xs) (m2 : MapI w g2 ys) (hl : xs.length = 3 ∧ ys.length = 3) (hI : I64 l) :
    Calls Try.prog 150 #[.agg #[.map (some g1), .map (some g2), .int .i64 l]] w (RetOwn tBk ⟨xs, ys, l⟩ w) := by
  have HL := Lib.hid hl
  clear hl
  have f := Fr.refl w
  go_enter Try.func150, Try.ntmps150
  go_upto_region 1 with (first
    | ((with_reducible refine gate_dst (N := 1) rfl ?_); refine wpList_box rfl _ _ rfl #[.map (some g1), .map (some g2), .int .i64 l] rfl ?_; intro g_k1 w9 hg_k1 k1 f9; have zf_k1 := f.size; have hl_k1 := k1.lt; have z9 := f9.size; replace f := f.trans f9; (try (replace k2 := k2.fr f9; (try clear r_k2); have r_k2 := k2.cells)); (try clear r_k1); have r_k1 := k1.cells)
    | ((with_reducible refine gate_dst (N := 2) rfl ?_); refine wpList_alloc rfl _ rfl _ (zero26 _) #[.slice none 0 0, .slice none 0 0, .int .i64 0] rfl ?_; intro g_k2 w9 hg_k2 k2 f9; have zf_k2 := f.size; have hl_k2 := k2.lt; have z9 := f9.size; replace f := f.trans f9; (try (replace k1 := k1.fr f9; (try clear r_k1); have r_k1 := k1.cells)); (try clear r_k2); have r_k2 := k2.cells))
  simp only [Act.put, List.setIfInBounds_toArray, List.set_cons_zero, List.set_cons_succ]
  have hne : g_k1 ≠ g_k2 := by omega
  go_region_held_law (fun w' => (∀ j, w'.cell? ⟨g_k1, j, none⟩ = #[.map (some g1), .map (some g2), .int .i64 l][j]?) ∧ Chg [g_k2] w9 w')
    (first | (go_split_ands; refine held2 k1 hne ?_; repeat (first | exact Chg.refl _ _ | assumption | exact Fr.chg (by assumption) | apply Chg.drew | apply Chg.alloc | (apply Chg.setIn) | (refine Chg.fr ?_ (by assumption)))))
    (first
      | (go_at_call 159; go_split_ands; (with_reducible refine (amountList_c _ g1 xs (m1.fr (f.own (by assumption) (fun q hq => by have := List.mem_singleton.1 hq; omega))) HL.out.1).mono ?_); rintro e w8 ⟨u3, F3, rfl, ho3, hn3, hb3, f8⟩; have r8 := (k2.fr (show Fr w9 w8 by repeat (first | exact Fr.refl _ | assumption | apply Fr.drew | apply Fr.alloc | (refine Fr.trans ?_ (by assumption))))).cells; have s8 := (k2.fr (show Fr w9 w8 by repeat (first | exact Fr.refl _ | assumption | apply Fr.drew | apply Fr.alloc | (refine Fr.trans ?_ (by assumption))))).free; have hi3 := ho3.lt; obtain ⟨A3, c3, rfl⟩ := ho3.row.val)
      | (go_at_call 159; go_split_ands; (with_reducible refine (amountList_c _ g2 ys (m2.fr (f.own (by assumption) (fun q hq => by have := List.mem_singleton.1 hq; omega))) HL.out.2).mono ?_); rintro e w8 ⟨u7, F7, rfl, ho7, hn7, hb7, f8⟩; have r8 := (k2.fr (show Fr w9 w8 by repeat (first | exact Fr.refl _ | assumption | apply Fr.drew | apply Fr.alloc | (refine Fr.trans ?_ (by assumption))))).cells; have s8 := (k2.fr (show Fr w9 w8 by repeat (first | exact Fr.refl _ | assumption | apply Fr.drew | apply Fr.alloc | (refine Fr.trans ?_ (by assumption))))).free; have hi7 := ho7.lt; obtain ⟨A7, c7, rfl⟩ := ho7.row.val))
  all_goals
    have lo3 : ∀ q ∈ F3, w9.heap.size ≤ q := fun q hq => Nat.le_trans (Chg.size (F := []) (by repeat (first | exact Fr.refl _ | assumption | apply Fr.drew | apply Fr.alloc | (refine Fr.trans ?_ (by assumption))))) (hb3 q hq)
    have lo7 : ∀ q ∈ F7, w9.heap.size ≤ q := fun q hq => Nat.le_trans (Chg.size (F := []) (by repeat (first | exact Fr.refl _ | assumption | apply Fr.drew | apply Fr.alloc | (refine Fr.trans ?_ (by assumption))))) (hb7 q hq)
    have dj : ∀ x ∈ F3, ∀ y ∈ F7, x ≠ y := by
      intro x hx y hy
      have a1 := hi3 x hx
      have a2 := hb3 x hx
      have a3 := hi7 y hy
      have a4 := hb7 y hy
      simp only [World.size_alloc, World.drew] at a1 a2 a3 a4
      omega
    go_wp2
    exact bodyPost_ret (v := .agg #[.slice A3 xs.length c3, .slice A7 ys.length c7, .int .i64 l]) (results_cell_row rfl _ _ g_k2 _ _ _ _ rfl ((((k2.fr (show Fr w9 w8 by repeat (first | exact Fr.refl _ | assumption | apply Fr.drew | apply Fr.alloc | (refine Fr.trans ?_ (by assumption))))).set 0 (.slice A3 xs.length c3)).set 1 (.slice A7 ys.length c7)).set 2 (.int .i64 l)).blk Try.underlying26 rfl size26) rfl
      ⟨[.slice A3 xs.length c3, .slice A7 ys.length c7, .int .i64 l], F3 ++ F7, rfl, ⟨_, _, F3, F7, rfl, rfl, (ho3.fr (show Fr _ w8 by repeat (first | exact Fr.refl _ | assumption | apply Fr.drew | apply Fr.alloc | (refine Fr.trans ?_ (by assumption))))).chg (show Chg [g_k2] w8 _ by repeat (first | exact Chg.refl _ _ | assumption | exact Fr.chg (by assumption) | apply Chg.drew | apply Chg.alloc | (apply Chg.setIn) | (refine Chg.fr ?_ (by assumption)))) (fun q hq hm => by have := lo3 q hq; have := List.mem_singleton.1 hm; omega), (ho7.fr (show Fr _ w8 by repeat (first | exact Fr.refl _ | assumption | apply Fr.drew | apply Fr.alloc | (refine Fr.trans ?_ (by assumption))))).chg (show Chg [g_k2] w8 _ by repeat (first | exact Chg.refl _ _ | assumption | exact Fr.chg (by assumption) | apply Chg.drew | apply Chg.alloc | (apply Chg.setIn) | (refine Chg.fr ?_ (by assumption)))) (fun q hq hm => by have := lo7 q hq; have := List.mem_singleton.1 hm; omega), hI⟩,
        List.nodup_append.2 ⟨hn3, hn7, dj⟩, lo_append (lo_mono lo3 (by omega)) (lo_mono lo7 (by omega)) (Nat.le_refl _), f.own (show Chg [g_k2] w9 _ by repeat (first | exact Chg.refl _ _ | assumption | exact Fr.chg (by assumption) | apply Chg.drew | apply Chg.alloc | (apply Chg.setIn) | (refine Chg.fr ?_ (by assumption)))) (fun q hq => by have := List.mem_singleton.1 hq; omega)⟩
end Go.Proofs.Ytapdcgjccckjeaa
namespace Go.Proofs.Ytapdcgjccckjeaa
set_option maxRecDepth 100000
set_option linter.unusedVariables false
set_option linter.unusedSimpArgs false
open Go.RowKit
theorem size168 : (Try.prog.info? 168).map (·.size) = some 3 := by kernel_rfl
theorem coinsV_ok {k : Int} (h : 1 ≤ k ∧ k ≤ 2) : ∃ fn, coinsV k = .tuple #[fn, .bool true] := by
  rcases (by omega : k = 1 ∨ k = 2) with rfl | rfl
  · exact ⟨_, rfl⟩
  · exact ⟨_, rfl⟩
theorem coinsV_no {k : Int} (h : ¬ (1 ≤ k ∧ k ≤ 2)) : coinsV k = .tuple #[.nilFunc, .bool false] := by
  unfold coinsV
  rw [if_neg (by omega), if_neg (by omega)]
end Go.Proofs.Ytapdcgjccckjeaa
