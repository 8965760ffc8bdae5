/- A link lengthened by a height, made out of a chain, and handed over. -/
import Derived.Test.YtapdcgjccckjeaaLnkC
namespace Go.Proofs.Ytapdcgjccckjeaa
set_option maxRecDepth 100000
set_option linter.unusedVariables false
set_option linter.unusedSimpArgs false
open Go.RowKit
set_option maxHeartbeats 3200000 in
theorem record_c (w : World) (g : Nat) (c : Ch) (F : List Nat) (h : (aLnk g c F).ok w ∧ F.Nodup) (s : St) (cs : List Value) (hs : tSt.rd w s cs) (hb : smallSt s) (hl : c.past.length ≤ 1000000) :
    Calls Try.prog 131 #[.pointer (some ⟨g, 0, none⟩), .agg cs.toArray] w fun e w' => e = .returned (.tuple #[]) ∧ ∃ F', Sep F w [aLnk g ⟨c.id, c.bank, c.st, c.past ++ [s], c.knows⟩ F'] w' := by
  have S := Sep.startLnk h.1 h.2
  obtain ⟨A1, m1, A2, m2, B1, n1, B2, n2, B3, n3, B4, n4, p, A5, m5, Y1, Y2, Z1, Z2, Z3, Z4, M1, K1, I9, J9, h15, S⟩ := S.openLnk
  have LN := Lib.hid (show cs.length = 7 from tSt.len hs)
  have SB := Lib.hid hb
  have pw : IntKind.i64.wrap ((c.past.length : Int) + 1) = (c.past.length : Int) + 1 := IntWalk.i64_in _ (by omega)
  clear h hb hl
  go_enter Try.func131, Try.ntmps131
  go_wp2_with (first
    | ((with_reducible refine gate_dst (N := 3) rfl ?_); refine wpList_box rfl _ _ rfl cs.toArray rfl ?_; intro g3 w9 hg3 k3 f9; replace S := S.new (aBox g3 30 7 cs) ⟨k3, LN.out⟩ (by simp [aBox]) (fun q hq => by rw [List.mem_singleton.1 hq]; exact hg3) f9; have HS := Lib.hid (tSt.fr ((Fr.refl _).drew) (tSt.fr f9 hs))))
  have S0 := (Sep.only1 (a1 := aBox g3 _ _ _) S delA)
  refine wp_region_noPanic ?_
  refine wp_region_held_drew (S := Sep _ _ _) (by kernel_rfl) S0.drew (fun _ => ?_)
  replace S := S.drew
  clear S0
  refine tk 0 ?_
  (try simp only [Act.put, List.setIfInBounds_toArray, List.set_cons_zero, List.set_cons_succ])
  refine tk 1 ?_
  (try simp only [Act.put, List.setIfInBounds_toArray, List.set_cons_zero, List.set_cons_succ])
  refine tk 3 ?_
  (try simp only [Act.put, List.setIfInBounds_toArray, List.set_cons_zero, List.set_cons_succ])
  refine tk 4 ?_
  (try simp only [Act.put, List.setIfInBounds_toArray, List.set_cons_zero, List.set_cons_succ])
  refine tk 5 ?_
  (try simp only [Act.put, List.setIfInBounds_toArray, List.set_cons_zero, List.set_cons_succ])
  refine rdys [2, 6] ?_
  refine rdc 2 (fun K hK => ?_) ?_
  · go_simp; (skip; go_at_call 95; (with_reducible refine (stateCopy_c _ s _ HS.out SB.out).mono ?_); rintro e w9 ⟨cs9, F9, rfl, h9, n9, b9, f9⟩; replace S := S.new (aOwn tSt _ cs9 F9) h9 n9 b9 f9; clear h9 n9 b9 f9; obtain ⟨A6, n6, A7, n7, A8, n8, A9, n9, Z6, Z7, Z8, Z9, rfl, rfl, J6, S9⟩ := S.openSt; replace S := S9; clear S9)
    (first | refine hK.out _ _ (S.sub subA) (fun _ => ?_) | (go_wp2_with fail; refine hK.out _ _ (S.sub subA) (fun _ => ?_)))
    clear hK K
    (try simp only [Act.put, List.setIfInBounds_toArray, List.set_cons_zero, List.set_cons_succ])
    refine rdy1 6 (fun K hK => ?_)
    (first | refine rgLd S ?_ | refine rgPt S ?_ | refine rgL1 S ?_)
    (first | refine hK.out _ _ (S.sub subA) (fun _ => ?_) | (go_wp2_with fail; refine hK.out _ _ (S.sub subA) (fun _ => ?_)))
    clear hK K
    (try simp only [Act.put, List.setIfInBounds_toArray, List.set_cons_zero, List.set_cons_succ])
    refine tk 7 ?_
    (try simp only [Act.put, List.setIfInBounds_toArray, List.set_cons_zero, List.set_cons_succ])
    refine rdy1 8 (fun K hK => ?_)
    refine rgBx S ?_; clear S; intro gm w9 z9 S
    (first | refine hK.out _ _ (S.sub subA) (fun _ => ?_) | (go_wp2_with fail; refine hK.out _ _ (S.sub subA) (fun _ => ?_)))
    clear hK K
    (try simp only [Act.put, List.setIfInBounds_toArray, List.set_cons_zero, List.set_cons_succ])
    refine tk 9 ?_
    (try simp only [Act.put, List.setIfInBounds_toArray, List.set_cons_zero, List.set_cons_succ])
    refine tk 10 ?_
    (try simp only [Act.put, List.setIfInBounds_toArray, List.set_cons_zero, List.set_cons_succ])
    refine rdy1 11 (fun K hK => ?_)
    (first | refine rgS1 S ?_ | refine rgSt S ?_ | refine rgSp S ?_); clear S; intro w9 S
    (first | refine hK.out _ _ (S.sub subA) (fun _ => ?_) | (go_wp2_with fail; refine hK.out _ _ (S.sub subA) (fun _ => ?_)))
    clear hK K
    (try simp only [Act.put, List.setIfInBounds_toArray, List.set_cons_zero, List.set_cons_succ])
    refine wpAnyH_done (by kernel_rfl) ?_ _
    refine NoPanic.normal ?_
    go_wp2_with (first | ((with_reducible refine gate_box rfl ?_); refine aBx S ?_; clear S; intro g9 w9 z9 S) | ((with_reducible refine gate_alloc rfl ?_); refine aAl S ?_; clear S; intro g9 w9 z9 S) | ((with_reducible refine gate_load rfl ?_); first | refine aLd S ?_ | refine aPt S ?_ | refine aL1 S ?_) | ((with_reducible refine gate_st rfl ?_); (first | refine aS1 S ?_ | refine aSt S ?_ | refine aSp S ?_); clear S; intro w9 S))
    have S := Sep.shutSt (x := s.way) (y := s.vsn) (z := s.want) (S.front4 (a1 := aRow tPk _ s.sent _ Z6) (a2 := aRow tBool _ s.live _ Z7) (a3 := aRow tBool _ s.back _ Z8) (a4 := aRow tInt _ s.got _ Z9)) J6
    have S := Sep.mksCons (S.front3 (a1 := aBox gm _ _ _) (a2 := aOwn tSt _ _ _) (a3 := aMks _ _ _))
    have S' := S.allLnk ⟨c.id, c.bank, c.st, c.past ++ [s], c.knows⟩ I9 J9 h15
    (try simp only [Exit.inBlock, Exit.then])
    refine bodyPost_end (results_none rfl _ _ _) rfl ?_
    exact ⟨rfl, _, S'.left [_]⟩
  refine rdc 6 (fun K hK => ?_) AllReadyH.nil
  (first | refine rgLd S ?_ | refine rgPt S ?_ | refine rgL1 S ?_)
  (first | refine hK.out _ _ (S.sub subA) (fun _ => ?_) | (go_wp2_with fail; refine hK.out _ _ (S.sub subA) (fun _ => ?_)))
  clear hK K
  (try simp only [Act.put, List.setIfInBounds_toArray, List.set_cons_zero, List.set_cons_succ])
  refine rdy1 2 (fun K hK => ?_)
  go_simp; (skip; go_at_call 95; (with_reducible refine (stateCopy_c _ s _ HS.out SB.out).mono ?_); rintro e w9 ⟨cs9, F9, rfl, h9, n9, b9, f9⟩; replace S := S.new (aOwn tSt _ cs9 F9) h9 n9 b9 f9; clear h9 n9 b9 f9; obtain ⟨A6, n6, A7, n7, A8, n8, A9, n9, Z6, Z7, Z8, Z9, rfl, rfl, J6, S9⟩ := S.openSt; replace S := S9; clear S9)
  (first | refine hK.out _ _ (S.sub subA) (fun _ => ?_) | (go_wp2_with fail; refine hK.out _ _ (S.sub subA) (fun _ => ?_)))
  clear hK K
  (try simp only [Act.put, List.setIfInBounds_toArray, List.set_cons_zero, List.set_cons_succ])
  refine tk 7 ?_
  (try simp only [Act.put, List.setIfInBounds_toArray, List.set_cons_zero, List.set_cons_succ])
  refine rdy1 8 (fun K hK => ?_)
  refine rgBx S ?_; clear S; intro gm w9 z9 S
  (first | refine hK.out _ _ (S.sub subA) (fun _ => ?_) | (go_wp2_with fail; refine hK.out _ _ (S.sub subA) (fun _ => ?_)))
  clear hK K
  (try simp only [Act.put, List.setIfInBounds_toArray, List.set_cons_zero, List.set_cons_succ])
  refine tk 9 ?_
  (try simp only [Act.put, List.setIfInBounds_toArray, List.set_cons_zero, List.set_cons_succ])
  refine tk 10 ?_
  (try simp only [Act.put, List.setIfInBounds_toArray, List.set_cons_zero, List.set_cons_succ])
  refine rdy1 11 (fun K hK => ?_)
  (first | refine rgS1 S ?_ | refine rgSt S ?_ | refine rgSp S ?_); clear S; intro w9 S
  (first | refine hK.out _ _ (S.sub subA) (fun _ => ?_) | (go_wp2_with fail; refine hK.out _ _ (S.sub subA) (fun _ => ?_)))
  clear hK K
  (try simp only [Act.put, List.setIfInBounds_toArray, List.set_cons_zero, List.set_cons_succ])
  refine wpAnyH_done (by kernel_rfl) ?_ _
  refine NoPanic.normal ?_
  go_wp2_with (first | ((with_reducible refine gate_box rfl ?_); refine aBx S ?_; clear S; intro g9 w9 z9 S) | ((with_reducible refine gate_alloc rfl ?_); refine aAl S ?_; clear S; intro g9 w9 z9 S) | ((with_reducible refine gate_load rfl ?_); first | refine aLd S ?_ | refine aPt S ?_ | refine aL1 S ?_) | ((with_reducible refine gate_st rfl ?_); (first | refine aS1 S ?_ | refine aSt S ?_ | refine aSp S ?_); clear S; intro w9 S))
  have S := Sep.shutSt (x := s.way) (y := s.vsn) (z := s.want) (S.front4 (a1 := aRow tPk _ s.sent _ Z6) (a2 := aRow tBool _ s.live _ Z7) (a3 := aRow tBool _ s.back _ Z8) (a4 := aRow tInt _ s.got _ Z9)) J6
  have S := Sep.mksCons (S.front3 (a1 := aBox gm _ _ _) (a2 := aOwn tSt _ _ _) (a3 := aMks _ _ _))
  have S' := S.allLnk ⟨c.id, c.bank, c.st, c.past ++ [s], c.knows⟩ I9 J9 h15
  (try simp only [Exit.inBlock, Exit.then])
  refine bodyPost_end (results_none rfl _ _ _) rfl ?_
  exact ⟨rfl, _, S'.left [_]⟩
theorem okSt_small {s : St} (h : okSt s = true) : smallSt s := by
  have h1 := okSt_len h
  unfold smallSt
  omega
theorem okBk_len {b : Bk} (h : okBk b = true) : b.own.length = 3 ∧ b.notes.length = 3 := by
  unfold okBk at h
  simp only [Bool.and_eq_true] at h
  exact ⟨okL_len h.1.1.1.1, okL_len h.1.1.1.2⟩
theorem prevK_ge {ks : List Int} : ∀ {k : Nat}, k ≤ ks.length → (List.range k).all (kAt ks) = true → (k : Int) ≤ prevK ks k ∧ prevK ks k ≤ 90
  | 0, _, _ => by simp [prevK]
  | k + 1, hk, h => by
    have h1 : (List.range k).all (kAt ks) = true := by
      rw [List.range_succ, List.all_append, Bool.and_eq_true] at h
      exact h.1
    have h2 : kAt ks k = true := by
      rw [List.range_succ, List.all_append, Bool.and_eq_true] at h
      simpa using h.2
    have h3 := prevK_ge (Nat.le_of_succ_le hk) h1
    rw [prevK_succ (by omega)]
    rw [kAt_eq (by omega), Bool.and_eq_true, decide_eq_true_eq, decide_eq_true_eq] at h2
    omega
theorem knOk_len {ks : List Int} (h : knOk ks = true) : ks.length ≤ 90 := by
  have := prevK_ge (Nat.le_refl _) h
  omega
theorem past_ok {c : Ch} (h : okCh c = true) (k : Nat) (hk : k < c.past.length) : okSt c.past[k] = true := List.all_eq_true.1 (okCh_parts h).2.2.2.2.1 _ (List.getElem_mem hk)
theorem record_b (w : World) (g : Nat) (c : Ch) (F : List Nat) (h : (aLnk g c F).ok w ∧ F.Nodup) (s : St) (cs : List Value) (hs : tSt.rd w s cs) (hb : smallSt s) (hl : c.past.length ≤ 1000000) {ss : List St} (e : c.past ++ [s] = ss) :
    Calls Try.prog 131 #[.pointer (some ⟨g, 0, none⟩), .agg cs.toArray] w fun e w' => e = .returned (.tuple #[]) ∧ ∃ F', Sep F w [aLnk g ⟨c.id, c.bank, c.st, ss, c.knows⟩ F'] w' := e ▸ record_c w g c F h s cs hs hb hl
set_option maxHeartbeats 3200000 in
theorem linkOf_c (w : World) (c : Ch) (c1 : List Value) (h1 : tCh.rd w c c1) (hc : okCh c = true) : Calls Try.prog 104 #[.agg c1.toArray] w fun e w' => ∃ g F, e = .returned (.pointer (some ⟨g, 0, none⟩)) ∧ Sep [] w [aLnk g c F] w' := by
  obtain ⟨b1, b2, s1, s2, s3, s4, v1, v2, rfl, h11, h12, h13, h14, h15⟩ := h1
  obtain ⟨A1, m1, rfl⟩ := h13.val
  obtain ⟨q1, q2, q3, q4, q5, q6⟩ := okCh_parts hc
  have HB := Lib.hid (show c.bank.own.length ≤ 2097152 ∧ c.bank.notes.length ≤ 2097152 by have := okBk_len q2; omega)
  have HS := Lib.hid (okSt_small q3)
  have HK := Lib.hid (show c.knows.length ≤ 2097152 by have := knOk_len q6; omega)
  clear q1 q5
  have S := Sep.start w
  go_enter Try.func104, Try.ntmps104
  go_wp2_with (first | ((with_reducible refine gate_dst (N := 1) rfl ?_); refine aBx S ?_; clear S; intro gP w9 z9 S))
  have S0 := (Sep.only1 (a1 := aBox gP _ _ _) S delA)
  refine wp_region_noPanic ?_
  refine wp_region_held_drew (S := Sep _ _ _) (by kernel_rfl) S0.drew (fun _ => ?_)
  replace S := S.drew
  clear S0
  refine tk 0 ?_
  (try simp only [Act.put, List.setIfInBounds_toArray, List.set_cons_zero, List.set_cons_succ])
  refine tk 1 ?_
  (try simp only [Act.put, List.setIfInBounds_toArray, List.set_cons_zero, List.set_cons_succ])
  refine tk 3 ?_
  (try simp only [Act.put, List.setIfInBounds_toArray, List.set_cons_zero, List.set_cons_succ])
  refine tk 4 ?_
  (try simp only [Act.put, List.setIfInBounds_toArray, List.set_cons_zero, List.set_cons_succ])
  refine tk 5 ?_
  (try simp only [Act.put, List.setIfInBounds_toArray, List.set_cons_zero, List.set_cons_succ])
  refine tk 6 ?_
  (try simp only [Act.put, List.setIfInBounds_toArray, List.set_cons_zero, List.set_cons_succ])
  refine tk 8 ?_
  (try simp only [Act.put, List.setIfInBounds_toArray, List.set_cons_zero, List.set_cons_succ])
  refine tk 9 ?_
  (try simp only [Act.put, List.setIfInBounds_toArray, List.set_cons_zero, List.set_cons_succ])
  refine rdy1 2 (fun K hK => ?_)
  go_simp; (skip; go_at_call 130; (with_reducible refine (bankCopy_c _ c.bank _ (tBk.fr S.frame h11) HB.out).mono ?_); rintro e w9 ⟨cs9, F9, rfl, h9, n9, b9, f9⟩; replace S := S.new (aOwn tBk _ cs9 F9) h9 n9 b9 f9; clear h9 n9 b9 f9; obtain ⟨x1, x2, Y1, Y2, rfl, rfl, I9, S9⟩ := S.openBk; replace S := S9; clear S9)
  (first | refine hK.out _ _ (S.sub subA) (fun _ => ?_) | (go_wp2_with fail; refine hK.out _ _ (S.sub subA) (fun _ => ?_)))
  clear hK K
  (try simp only [Act.put, List.setIfInBounds_toArray, List.set_cons_zero, List.set_cons_succ])
  refine rdy1 7 (fun K hK => ?_)
  go_simp; (skip; go_at_call 95; (with_reducible refine (stateCopy_c _ c.st _ (tSt.fr S.frame h12) HS.out).mono ?_); rintro e w9 ⟨cs9, F9, rfl, h9, n9, b9, f9⟩; replace S := S.new (aOwn tSt _ cs9 F9) h9 n9 b9 f9; clear h9 n9 b9 f9; obtain ⟨A6, n6, A7, n7, A8, n8, A9, n9, Z6, Z7, Z8, Z9, rfl, rfl, J6, S9⟩ := S.openSt; replace S := S9; clear S9)
  (first | refine hK.out _ _ (S.sub subA) (fun _ => ?_) | (go_wp2_with fail; refine hK.out _ _ (S.sub subA) (fun _ => ?_)))
  clear hK K
  (try simp only [Act.put, List.setIfInBounds_toArray, List.set_cons_zero, List.set_cons_succ])
  refine rdy1 10 (fun K hK => ?_)
  go_simp; (skip; go_at_call 127; (with_reducible refine (freshI_c _ _ c.knows (h14.fr S.frame) HK.out).mono ?_); rintro e w9 ⟨v9, F9, rfl, h9, n9, b9, f9⟩; obtain ⟨A9, c9, rfl⟩ := h9.row.val; replace S := S.new (aRow tInt 3 _ (.slice A9 _ c9) F9) h9 n9 b9 f9; clear h9 n9 b9 f9)
  (first | refine hK.out _ _ (S.sub subA) (fun _ => ?_) | (go_wp2_with fail; refine hK.out _ _ (S.sub subA) (fun _ => ?_)))
  clear hK K
  (try simp only [Act.put, List.setIfInBounds_toArray, List.set_cons_zero, List.set_cons_succ])
  refine tk 11 ?_
  (try simp only [Act.put, List.setIfInBounds_toArray, List.set_cons_zero, List.set_cons_succ])
  refine rdy1 12 (fun K hK => ?_)
  refine rgBx S ?_; clear S; intro gL w9 z9 S
  (first | refine hK.out _ _ (S.sub subA) (fun _ => ?_) | (go_wp2_with fail; refine hK.out _ _ (S.sub subA) (fun _ => ?_)))
  clear hK K
  (try simp only [Act.put, List.setIfInBounds_toArray, List.set_cons_zero, List.set_cons_succ])
  refine tk 13 ?_
  (try simp only [Act.put, List.setIfInBounds_toArray, List.set_cons_zero, List.set_cons_succ])
  refine wpAnyH_done (by kernel_rfl) ?_ _
  refine NoPanic.normal ?_
  replace S := S.mksNew
  replace S := S.allLnk ⟨c.id, c.bank, c.st, [], c.knows⟩ I9 J6 h15
  go_wp2_with (first | ((with_reducible refine gate_box rfl ?_); refine aBx S ?_; clear S; intro g9 w9 z9 S) | ((with_reducible refine gate_alloc rfl ?_); refine aAl S ?_; clear S; intro g9 w9 z9 S) | ((with_reducible refine gate_load rfl ?_); first | refine aLd S ?_ | refine aPt S ?_ | refine aL1 S ?_) | ((with_reducible refine gate_st rfl ?_); (first | refine aS1 S ?_ | refine aSt S ?_ | refine aSp S ?_); clear S; intro w9 S))
  go_loopw [22] (fun i wr => ∃ (k : Nat) (F : List Nat), k ≤ c.past.length ∧ i = .int .i64 k ∧ Sep [] w [aLnk gL ⟨c.id, c.bank, c.st, c.past.take k, c.knows⟩ F] wr) (fun i _ => c.past.length - (intOf i).toNat)
  case atStart => exact ⟨0, _, Nat.zero_le _, rfl, S.left [_]⟩
  case round =>
    clear S
    obtain ⟨k, F, hk, rfl, S⟩ := hrel
    by_cases hlt : k < c.past.length
    · obtain ⟨ad1, cs1, rfl, r1, g1⟩ := cellsAt_of_row h13 k hlt
      have G1 := Lib.hid (fun (W : World) (f : Fr w W) => g1.fr f)
      have Q1 := Lib.hid (fun (W : World) (f : Fr w W) => tSt.fr f r1)
      have N1 := Lib.hid (show cs1.length = 7 from tSt.len r1)
      have n1 := tSt_rd_one r1
      have OK := Lib.hid (okSt_small (past_ok hc k hlt))
      have TK := Lib.hid (List.take_succ_eq_append_getElem hlt).symm
      have TL := Lib.hid (show (c.past.take k).length ≤ 1000000 by simp; omega)
      have p0 : (0 : Int) ≤ (k : Int) := Int.natCast_nonneg _
      have p1 : (k : Int) < (c.past.length : Int) := by omega
      clear g1 r1
      go_wp2_with (first | ((with_reducible refine gate_dst (N := 25) rfl ?_); refine aRw (G1.out _ S.frame) ?_ (hn := N1.out)) | (go_at_call 131; (with_reducible refine (record_b _ gL ⟨c.id, c.bank, c.st, c.past.take k, c.knows⟩ F (S.lnk memA) _ _ (Q1.out _ S.frame) OK.out TL.out TK.out).mono ?_); rintro e w9 ⟨rfl, F9, T9⟩; replace S := S.callLnk delA T9; clear T9) | ((with_reducible refine gate_box rfl ?_); refine aBx S ?_; clear S; intro g9 w9 z9 S) | ((with_reducible refine gate_alloc rfl ?_); refine aAl S ?_; clear S; intro g9 w9 z9 S) | ((with_reducible refine gate_load rfl ?_); first | refine aLd S ?_ | refine aPt S ?_ | refine aL1 S ?_) | ((with_reducible refine gate_st rfl ?_); (first | refine aS1 S ?_ | refine aSt S ?_ | refine aSp S ?_); clear S; intro w9 S))
      go_roundw
      case rel => exact ⟨k + 1, F9, by omega, by go_num, S.left [_]⟩
      case measure => simp [intOf]; omega
    · obtain rfl : k = c.past.length := by omega
      rw [List.take_length] at S
      go_wp2_with (first | ((with_reducible refine gate_box rfl ?_); refine aBx S ?_; clear S; intro g9 w9 z9 S) | ((with_reducible refine gate_alloc rfl ?_); refine aAl S ?_; clear S; intro g9 w9 z9 S) | ((with_reducible refine gate_load rfl ?_); first | refine aLd S ?_ | refine aPt S ?_ | refine aL1 S ?_) | ((with_reducible refine gate_st rfl ?_); (first | refine aS1 S ?_ | refine aSt S ?_ | refine aSp S ?_); clear S; intro w9 S))
      go_ret
      exact ⟨gL, F, rfl, S⟩
end Go.Proofs.Ytapdcgjccckjeaa
