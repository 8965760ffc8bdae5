/- The program's and the reference's ChainBlock. -/
import Derived.Test.YtapdcgjccckjeaaChCopy
import Derived.Test.YtapdcgjccckjeaaChNew
namespace Go.Proofs.Ytapdcgjccckjeaa
set_option maxRecDepth 100000
set_option linter.unusedVariables false
set_option linter.unusedSimpArgs false
open Go.RowKit
def blk (c : Ch) : Ch := if c.past.length < 90 then ⟨c.id, c.bank, c.st, c.past ++ [c.st], c.knows⟩ else c
theorem blk_yes {c : Ch} (h : c.past.length < 90) : blk c = ⟨c.id, c.bank, c.st, c.past ++ [c.st], c.knows⟩ := if_pos h
theorem blk_no {c : Ch} (h : ¬ c.past.length < 90) : blk c = c := if_neg h
theorem blk_len {c : Ch} (h : c.past.length ≤ 90) : (blk c).past.length ≤ 90 := by
  unfold blk
  split
  · simp; omega
  · exact h
set_option maxHeartbeats 3200000 in
theorem block_c (w : World) (g : Nat) (c : Ch) (F : List Nat) (h : (aLnk g c F).ok w ∧ F.Nodup) (hb : smallSt c.st) (hl : c.past.length ≤ 90) :
    Calls Try.prog 105 #[.pointer (some ⟨g, 0, none⟩)] w fun e w' => e = .returned (.tuple #[]) ∧ ∃ F', Sep F w [aLnk g (blk c) F'] w' := by
  have S := Sep.startLnk h.1 h.2
  obtain ⟨A1, m1, A2, m2, B1, n1, B2, n2, B3, n3, B4, n4, p, A5, m5, Y1, Y2, Z1, Z2, Z3, Z4, M1, K1, I9, J9, h15, S9⟩ := S.openLnk
  replace S := S9
  clear S9 h
  by_cases hlt : c.past.length < 90
  · have d1 : decide ((c.past.length : Int) < 90) = true := decide_eq_true (by omega)
    have B0 := Lib.hid (blk_yes hlt)
    have HB := Lib.hid hb
    have TL := Lib.hid (show c.past.length ≤ 1000000 by omega)
    clear hb hl hlt
    go_enter Try.func105, Try.ntmps105
    go_wp2_with (first
      | (go_at_call 131; go_loud ((with_reducible refine (record_c _ g c _ ((S.allLnk c I9 J9 h15).lnk List.mem_cons_self) c.st [.int .i64 c.st.way, .int .i64 c.st.vsn, .int .i64 c.st.want, .slice B1 c.st.sent.length n1, .slice B2 c.st.live.length n2, .slice B3 c.st.back.length n3, .slice B4 c.st.got.length n4] (tSt_mk (S.row (d := tPk) (xs := c.st.sent) (F := Z1) (e := 88) memA).row (S.row (d := tBool) (xs := c.st.live) (F := Z2) (e := 4) memA).row (S.row (d := tBool) (xs := c.st.back) (F := Z3) (e := 4) memA).row (S.row (d := tInt) (xs := c.st.got) (F := Z4) (e := 3) memA).row J9) HB.out TL.out).mono ?_); rintro e w9 ⟨rfl, F9, T9⟩; replace S := (S.allLnk c I9 J9 h15).callLnk1 (.head _ _) T9; clear T9))
      | ((with_reducible refine gate_box rfl ?_); refine aBx S ?_; clear S; intro g9 w9 z9 S) | ((with_reducible refine gate_alloc rfl ?_); refine aAl S ?_; clear S; intro g9 w9 z9 S) | ((with_reducible refine gate_load rfl ?_); first | refine aLd S ?_ | refine aPt S ?_ | refine aL1 S ?_) | ((with_reducible refine gate_st rfl ?_); (first | refine aS1 S ?_ | refine aSt S ?_ | refine aSp S ?_); clear S; intro w9 S))
    all_goals
      (try simp only [Exit.inBlock, Exit.then])
      refine bodyPost_end (results_none rfl _ _ _) rfl ?_
      rw [B0.out]
      exact ⟨rfl, F9, S.left [_]⟩
  · have d1 : decide ((c.past.length : Int) < 90) = false := decide_eq_false (by omega)
    have B0 := Lib.hid (blk_no hlt)
    clear hb hl hlt
    go_enter Try.func105, Try.ntmps105
    go_wp2_with (first | ((with_reducible refine gate_box rfl ?_); refine aBx S ?_; clear S; intro g9 w9 z9 S) | ((with_reducible refine gate_alloc rfl ?_); refine aAl S ?_; clear S; intro g9 w9 z9 S) | ((with_reducible refine gate_load rfl ?_); first | refine aLd S ?_ | refine aPt S ?_ | refine aL1 S ?_) | ((with_reducible refine gate_st rfl ?_); (first | refine aS1 S ?_ | refine aSt S ?_ | refine aSp S ?_); clear S; intro w9 S))
    have S' := S.allLnk c I9 J9 h15
    all_goals
      (try simp only [Exit.inBlock, Exit.then])
      refine bodyPost_end (results_none rfl _ _ _) rfl ?_
      rw [B0.out]
      exact ⟨rfl, _, S'.left [_]⟩
theorem Sep.startCh {w : World} {c : Ch} {cs : List Value} {F : List Nat} (h : (aOwn tCh c cs F).ok w ∧ F.Nodup) : Sep F w [aOwn tCh c cs F] w :=
  ⟨Chg.refl _ _, (fun a ha => by rw [List.mem_singleton.1 ha]; exact h.1), (fun a ha q hq => by rw [List.mem_singleton.1 ha] at hq; exact .inl hq), by simpa [fps, aOwn] using h.2⟩
theorem Sep.ownOk {α : Type} {d : Ty α} {F0 : List Nat} {w0 w : World} {L : List Asrt} {x : α} {cs : List Value} {F : List Nat} (S : Sep F0 w0 L w) (h : aOwn d x cs F ∈ L) : (aOwn d x cs F).ok w ∧ F.Nodup := ⟨S.ok _ h, S.nodup h⟩
theorem Sep.callCh1 {F0 : List Nat} {w0 w w' : World} {L L' : List Asrt} {a : Asrt} {c : Ch} {cs : List Value} {F : List Nat} (S : Sep F0 w0 L w) (p : Del L (aOwn tCh c cs F) L') (T : Sep F w [a] w') : Sep F0 w0 (a :: L') w' := Sep.call [aOwn tCh c cs F] (S.pull p) (by simpa [fps, aOwn] using T)
set_option maxHeartbeats 3200000 in
theorem l12Block_c (w : World) (c : Ch) (c1 : List Value) (F : List Nat) (h : (aOwn tCh c c1 F).ok w ∧ F.Nodup) (hb : smallSt c.st) (hl : c.past.length ≤ 90) :
    Calls Try.prog 102 #[.agg c1.toArray] w fun e w' => ∃ cs F', e = .returned (.agg cs.toArray) ∧ Sep F w [aOwn tCh (blk c) cs F'] w' := by
  have S := Sep.startCh h
  obtain ⟨b1, b2, s1, s2, s3, s4, A1, n1, A2, n2, F1, F2, F3, F4, rfl, rfl, h15, S9⟩ := S.openCh
  replace S := S9
  clear S9 h
  obtain ⟨x1, x2, Y1, Y2, e1, rfl, I9, S9⟩ := S.openBk
  simp only [List.cons.injEq, and_true] at e1
  obtain ⟨rfl, rfl⟩ := e1
  replace S := S9
  clear S9
  have S9 := S.pull (a := aOwn tSt c.st _ F2) delA
  replace S := S9
  clear S9
  obtain ⟨A6, n6, A7, n7, A8, n8, A9, n9, Z1, Z2, Z3, Z4, e1, rfl, J9, S9⟩ := S.openSt
  simp only [List.cons.injEq, and_true, true_and] at e1
  obtain ⟨rfl, rfl, rfl, rfl⟩ := e1
  replace S := S9
  clear S9
  by_cases hlt : c.past.length < 90
  · have d1 : decide ((c.past.length : Int) < 90) = true := decide_eq_true (by omega)
    have B0 := Lib.hid (blk_yes hlt)
    have HB := Lib.hid hb
    have TL := Lib.hid (show c.past.length + 1 ≤ 2097152 by omega)
    clear hb hl hlt
    go_enter Try.func102, Try.ntmps102
    go_wp2_with (first | ((with_reducible refine gate_dst (N := 1) rfl ?_); refine aBx S ?_; clear S; intro gP w9 z9 S) | ((with_reducible refine gate_dst (N := 2) rfl ?_); refine aAl S ?_; clear S; intro gR w9 z9 S) | ((with_reducible refine gate_box rfl ?_); refine aBx S ?_; clear S; intro g9 w9 z9 S) | ((with_reducible refine gate_alloc rfl ?_); refine aAl S ?_; clear S; intro g9 w9 z9 S) | ((with_reducible refine gate_load rfl ?_); first | refine aLd S ?_ | refine aPt S ?_ | refine aL1 S ?_) | ((with_reducible refine gate_st rfl ?_); (first | refine aS1 S ?_ | refine aSt S ?_ | refine aSp S ?_); clear S; intro w9 S))
    have S0 := (Sep.only1 (a1 := aBox gR _ _ _) S delA)
    refine wp_region_noPanic ?_
    refine wp_region_held_drew (S := Sep _ _ _) (by kernel_rfl) S0.drew (fun _ => ?_)
    replace S := S.drew
    clear S0
    refine tk 0 ?_
    (try simp only [Act.put, List.setIfInBounds_toArray, List.set_cons_zero, List.set_cons_succ])
    refine tk 2 ?_
    (try simp only [Act.put, List.setIfInBounds_toArray, List.set_cons_zero, List.set_cons_succ])
    refine rdys [1, 3] ?_
    refine rdc 1 (fun K hK => ?_) ?_
    · (first | refine rgLd S ?_ | refine rgPt S ?_ | refine rgL1 S ?_)
      (first | refine hK.out _ _ (S.sub subA) (fun _ => ?_) | (go_wp2_with fail; refine hK.out _ _ (S.sub subA) (fun _ => ?_)))
      clear hK K
      (try simp only [Act.put, List.setIfInBounds_toArray, List.set_cons_zero, List.set_cons_succ])
      refine rdy1 3 (fun K hK => ?_)
      (first | refine rgLd S ?_ | refine rgPt S ?_ | refine rgL1 S ?_)
      (first | refine hK.out _ _ (S.sub subA) (fun _ => ?_) | (go_wp2_with fail; refine hK.out _ _ (S.sub subA) (fun _ => ?_)))
      clear hK K
      (try simp only [Act.put, List.setIfInBounds_toArray, List.set_cons_zero, List.set_cons_succ])
      refine rdy1 4 (fun K hK => ?_)
      go_simp; (skip; go_at_call 94; (with_reducible refine (l3Copy_c _ c.st _ (tSt_mk (S.row (d := tPk) (xs := c.st.sent) (F := Z1) (e := 88) memA).row (S.row (d := tBool) (xs := c.st.live) (F := Z2) (e := 4) memA).row (S.row (d := tBool) (xs := c.st.back) (F := Z3) (e := 4) memA).row (S.row (d := tInt) (xs := c.st.got) (F := Z4) (e := 3) memA).row J9) HB.out).mono ?_); rintro e w9 ⟨cs9, F9, rfl, h9, n9, b9, f9⟩; replace S := S.new (aOwn tSt _ cs9 F9) h9 n9 b9 f9; clear h9 n9 b9 f9; obtain ⟨A6, n6, A7, n7, A8, n8, A9, n9, rfl⟩ := S.shapeSt List.mem_cons_self)
      (first | refine hK.out _ _ (S.sub subA) (fun _ => ?_) | (go_wp2_with fail; refine hK.out _ _ (S.sub subA) (fun _ => ?_)))
      clear hK K
      (try simp only [Act.put, List.setIfInBounds_toArray, List.set_cons_zero, List.set_cons_succ])
      refine rdy1 5 (fun K hK => ?_)
      refine rgLit1 (d := tSt) 30 S delA ?_; clear S; intro g12 w9 z9 S
      (first | refine hK.out _ _ (S.sub subA) (fun _ => ?_) | (go_wp2_with fail; refine hK.out _ _ (S.sub subA) (fun _ => ?_)))
      clear hK K
      (try simp only [Act.put, List.setIfInBounds_toArray, List.set_cons_zero, List.set_cons_succ])
      refine rdy1 6 (fun K hK => ?_)
      refine rgApO (d := tSt) (xs := c.past) (ys := [c.st]) (us := c.past ++ [c.st]) S delA delA (.inl (by decide)) TL.out ?_; clear S; intro A13 c13 F13 w9 S
      (first | refine hK.out _ _ (S.sub subA) (fun _ => ?_) | (go_wp2_with fail; refine hK.out _ _ (S.sub subA) (fun _ => ?_)))
      clear hK K
      (try simp only [Act.put, List.setIfInBounds_toArray, List.set_cons_zero, List.set_cons_succ])
      refine tk 7 ?_
      (try simp only [Act.put, List.setIfInBounds_toArray, List.set_cons_zero, List.set_cons_succ])
      refine rdy1 8 (fun K hK => ?_)
      (first | refine rgS1 S ?_ | refine rgSt S ?_ | refine rgSp S ?_); clear S; intro w9 S
      (first | refine hK.out _ _ (S.sub subA) (fun _ => ?_) | (go_wp2_with fail; refine hK.out _ _ (S.sub subA) (fun _ => ?_)))
      clear hK K
      (try simp only [Act.put, List.setIfInBounds_toArray, List.set_cons_zero, List.set_cons_succ])
      refine wpAnyH_done (by kernel_rfl) ?_ _
      refine NoPanic.normal ?_
      go_wp2_with (first | ((with_reducible refine gate_box rfl ?_); refine aBx S ?_; clear S; intro g9 w9 z9 S) | ((with_reducible refine gate_alloc rfl ?_); refine aAl S ?_; clear S; intro g9 w9 z9 S) | ((with_reducible refine gate_load rfl ?_); first | refine aLd S ?_ | refine aPt S ?_ | refine aL1 S ?_) | ((with_reducible refine gate_st rfl ?_); (first | refine aS1 S ?_ | refine aSt S ?_ | refine aSp S ?_); clear S; intro w9 S))
      have S' := S.allCh ⟨c.id, c.bank, c.st, c.past ++ [c.st], c.knows⟩ I9 J9 h15
      (refine Sep.ret1 S rfl rfl memA Try.underlying33 rfl ts33 rfl ?_)
      rw [B0.out]
      exact ⟨_, _, rfl, S'.left [_]⟩
    refine rdc 3 (fun K hK => ?_) AllReadyH.nil
    (first | refine rgLd S ?_ | refine rgPt S ?_ | refine rgL1 S ?_)
    (first | refine hK.out _ _ (S.sub subA) (fun _ => ?_) | (go_wp2_with fail; refine hK.out _ _ (S.sub subA) (fun _ => ?_)))
    clear hK K
    (try simp only [Act.put, List.setIfInBounds_toArray, List.set_cons_zero, List.set_cons_succ])
    refine rdys [1, 4] ?_
    refine rdc 1 (fun K hK => ?_) ?_
    · (first | refine rgLd S ?_ | refine rgPt S ?_ | refine rgL1 S ?_)
      (first | refine hK.out _ _ (S.sub subA) (fun _ => ?_) | (go_wp2_with fail; refine hK.out _ _ (S.sub subA) (fun _ => ?_)))
      clear hK K
      (try simp only [Act.put, List.setIfInBounds_toArray, List.set_cons_zero, List.set_cons_succ])
      refine rdy1 4 (fun K hK => ?_)
      go_simp; (skip; go_at_call 94; (with_reducible refine (l3Copy_c _ c.st _ (tSt_mk (S.row (d := tPk) (xs := c.st.sent) (F := Z1) (e := 88) memA).row (S.row (d := tBool) (xs := c.st.live) (F := Z2) (e := 4) memA).row (S.row (d := tBool) (xs := c.st.back) (F := Z3) (e := 4) memA).row (S.row (d := tInt) (xs := c.st.got) (F := Z4) (e := 3) memA).row J9) HB.out).mono ?_); rintro e w9 ⟨cs9, F9, rfl, h9, n9, b9, f9⟩; replace S := S.new (aOwn tSt _ cs9 F9) h9 n9 b9 f9; clear h9 n9 b9 f9; obtain ⟨A6, n6, A7, n7, A8, n8, A9, n9, rfl⟩ := S.shapeSt List.mem_cons_self)
      (first | refine hK.out _ _ (S.sub subA) (fun _ => ?_) | (go_wp2_with fail; refine hK.out _ _ (S.sub subA) (fun _ => ?_)))
      clear hK K
      (try simp only [Act.put, List.setIfInBounds_toArray, List.set_cons_zero, List.set_cons_succ])
      refine rdy1 5 (fun K hK => ?_)
      refine rgLit1 (d := tSt) 30 S delA ?_; clear S; intro g12 w9 z9 S
      (first | refine hK.out _ _ (S.sub subA) (fun _ => ?_) | (go_wp2_with fail; refine hK.out _ _ (S.sub subA) (fun _ => ?_)))
      clear hK K
      (try simp only [Act.put, List.setIfInBounds_toArray, List.set_cons_zero, List.set_cons_succ])
      refine rdy1 6 (fun K hK => ?_)
      refine rgApO (d := tSt) (xs := c.past) (ys := [c.st]) (us := c.past ++ [c.st]) S delA delA (.inl (by decide)) TL.out ?_; clear S; intro A13 c13 F13 w9 S
      (first | refine hK.out _ _ (S.sub subA) (fun _ => ?_) | (go_wp2_with fail; refine hK.out _ _ (S.sub subA) (fun _ => ?_)))
      clear hK K
      (try simp only [Act.put, List.setIfInBounds_toArray, List.set_cons_zero, List.set_cons_succ])
      refine tk 7 ?_
      (try simp only [Act.put, List.setIfInBounds_toArray, List.set_cons_zero, List.set_cons_succ])
      refine rdy1 8 (fun K hK => ?_)
      (first | refine rgS1 S ?_ | refine rgSt S ?_ | refine rgSp S ?_); clear S; intro w9 S
      (first | refine hK.out _ _ (S.sub subA) (fun _ => ?_) | (go_wp2_with fail; refine hK.out _ _ (S.sub subA) (fun _ => ?_)))
      clear hK K
      (try simp only [Act.put, List.setIfInBounds_toArray, List.set_cons_zero, List.set_cons_succ])
      refine wpAnyH_done (by kernel_rfl) ?_ _
      refine NoPanic.normal ?_
      go_wp2_with (first | ((with_reducible refine gate_box rfl ?_); refine aBx S ?_; clear S; intro g9 w9 z9 S) | ((with_reducible refine gate_alloc rfl ?_); refine aAl S ?_; clear S; intro g9 w9 z9 S) | ((with_reducible refine gate_load rfl ?_); first | refine aLd S ?_ | refine aPt S ?_ | refine aL1 S ?_) | ((with_reducible refine gate_st rfl ?_); (first | refine aS1 S ?_ | refine aSt S ?_ | refine aSp S ?_); clear S; intro w9 S))
      have S' := S.allCh ⟨c.id, c.bank, c.st, c.past ++ [c.st], c.knows⟩ I9 J9 h15
      (refine Sep.ret1 S rfl rfl memA Try.underlying33 rfl ts33 rfl ?_)
      rw [B0.out]
      exact ⟨_, _, rfl, S'.left [_]⟩
    refine rdc 4 (fun K hK => ?_) AllReadyH.nil
    go_simp; (skip; go_at_call 94; (with_reducible refine (l3Copy_c _ c.st _ (tSt_mk (S.row (d := tPk) (xs := c.st.sent) (F := Z1) (e := 88) memA).row (S.row (d := tBool) (xs := c.st.live) (F := Z2) (e := 4) memA).row (S.row (d := tBool) (xs := c.st.back) (F := Z3) (e := 4) memA).row (S.row (d := tInt) (xs := c.st.got) (F := Z4) (e := 3) memA).row J9) HB.out).mono ?_); rintro e w9 ⟨cs9, F9, rfl, h9, n9, b9, f9⟩; replace S := S.new (aOwn tSt _ cs9 F9) h9 n9 b9 f9; clear h9 n9 b9 f9; obtain ⟨A6, n6, A7, n7, A8, n8, A9, n9, rfl⟩ := S.shapeSt List.mem_cons_self)
    (first | refine hK.out _ _ (S.sub subA) (fun _ => ?_) | (go_wp2_with fail; refine hK.out _ _ (S.sub subA) (fun _ => ?_)))
    clear hK K
    (try simp only [Act.put, List.setIfInBounds_toArray, List.set_cons_zero, List.set_cons_succ])
    refine rdys [1, 5] ?_
    refine rdc 1 (fun K hK => ?_) ?_
    · (first | refine rgLd S ?_ | refine rgPt S ?_ | refine rgL1 S ?_)
      (first | refine hK.out _ _ (S.sub subA) (fun _ => ?_) | (go_wp2_with fail; refine hK.out _ _ (S.sub subA) (fun _ => ?_)))
      clear hK K
      (try simp only [Act.put, List.setIfInBounds_toArray, List.set_cons_zero, List.set_cons_succ])
      refine rdy1 5 (fun K hK => ?_)
      refine rgLit1 (d := tSt) 30 S delA ?_; clear S; intro g12 w9 z9 S
      (first | refine hK.out _ _ (S.sub subA) (fun _ => ?_) | (go_wp2_with fail; refine hK.out _ _ (S.sub subA) (fun _ => ?_)))
      clear hK K
      (try simp only [Act.put, List.setIfInBounds_toArray, List.set_cons_zero, List.set_cons_succ])
      refine rdy1 6 (fun K hK => ?_)
      refine rgApO (d := tSt) (xs := c.past) (ys := [c.st]) (us := c.past ++ [c.st]) S delA delA (.inl (by decide)) TL.out ?_; clear S; intro A13 c13 F13 w9 S
      (first | refine hK.out _ _ (S.sub subA) (fun _ => ?_) | (go_wp2_with fail; refine hK.out _ _ (S.sub subA) (fun _ => ?_)))
      clear hK K
      (try simp only [Act.put, List.setIfInBounds_toArray, List.set_cons_zero, List.set_cons_succ])
      refine tk 7 ?_
      (try simp only [Act.put, List.setIfInBounds_toArray, List.set_cons_zero, List.set_cons_succ])
      refine rdy1 8 (fun K hK => ?_)
      (first | refine rgS1 S ?_ | refine rgSt S ?_ | refine rgSp S ?_); clear S; intro w9 S
      (first | refine hK.out _ _ (S.sub subA) (fun _ => ?_) | (go_wp2_with fail; refine hK.out _ _ (S.sub subA) (fun _ => ?_)))
      clear hK K
      (try simp only [Act.put, List.setIfInBounds_toArray, List.set_cons_zero, List.set_cons_succ])
      refine wpAnyH_done (by kernel_rfl) ?_ _
      refine NoPanic.normal ?_
      go_wp2_with (first | ((with_reducible refine gate_box rfl ?_); refine aBx S ?_; clear S; intro g9 w9 z9 S) | ((with_reducible refine gate_alloc rfl ?_); refine aAl S ?_; clear S; intro g9 w9 z9 S) | ((with_reducible refine gate_load rfl ?_); first | refine aLd S ?_ | refine aPt S ?_ | refine aL1 S ?_) | ((with_reducible refine gate_st rfl ?_); (first | refine aS1 S ?_ | refine aSt S ?_ | refine aSp S ?_); clear S; intro w9 S))
      have S' := S.allCh ⟨c.id, c.bank, c.st, c.past ++ [c.st], c.knows⟩ I9 J9 h15
      (refine Sep.ret1 S rfl rfl memA Try.underlying33 rfl ts33 rfl ?_)
      rw [B0.out]
      exact ⟨_, _, rfl, S'.left [_]⟩
    refine rdc 5 (fun K hK => ?_) AllReadyH.nil
    refine rgLit1 (d := tSt) 30 S delA ?_; clear S; intro g12 w9 z9 S
    (first | refine hK.out _ _ (S.sub subA) (fun _ => ?_) | (go_wp2_with fail; refine hK.out _ _ (S.sub subA) (fun _ => ?_)))
    clear hK K
    (try simp only [Act.put, List.setIfInBounds_toArray, List.set_cons_zero, List.set_cons_succ])
    refine rdy1 1 (fun K hK => ?_)
    (first | refine rgLd S ?_ | refine rgPt S ?_ | refine rgL1 S ?_)
    (first | refine hK.out _ _ (S.sub subA) (fun _ => ?_) | (go_wp2_with fail; refine hK.out _ _ (S.sub subA) (fun _ => ?_)))
    clear hK K
    (try simp only [Act.put, List.setIfInBounds_toArray, List.set_cons_zero, List.set_cons_succ])
    refine rdy1 6 (fun K hK => ?_)
    refine rgApO (d := tSt) (xs := c.past) (ys := [c.st]) (us := c.past ++ [c.st]) S delA delA (.inl (by decide)) TL.out ?_; clear S; intro A13 c13 F13 w9 S
    (first | refine hK.out _ _ (S.sub subA) (fun _ => ?_) | (go_wp2_with fail; refine hK.out _ _ (S.sub subA) (fun _ => ?_)))
    clear hK K
    (try simp only [Act.put, List.setIfInBounds_toArray, List.set_cons_zero, List.set_cons_succ])
    refine tk 7 ?_
    (try simp only [Act.put, List.setIfInBounds_toArray, List.set_cons_zero, List.set_cons_succ])
    refine rdy1 8 (fun K hK => ?_)
    (first | refine rgS1 S ?_ | refine rgSt S ?_ | refine rgSp S ?_); clear S; intro w9 S
    (first | refine hK.out _ _ (S.sub subA) (fun _ => ?_) | (go_wp2_with fail; refine hK.out _ _ (S.sub subA) (fun _ => ?_)))
    clear hK K
    (try simp only [Act.put, List.setIfInBounds_toArray, List.set_cons_zero, List.set_cons_succ])
    refine wpAnyH_done (by kernel_rfl) ?_ _
    refine NoPanic.normal ?_
    go_wp2_with (first | ((with_reducible refine gate_box rfl ?_); refine aBx S ?_; clear S; intro g9 w9 z9 S) | ((with_reducible refine gate_alloc rfl ?_); refine aAl S ?_; clear S; intro g9 w9 z9 S) | ((with_reducible refine gate_load rfl ?_); first | refine aLd S ?_ | refine aPt S ?_ | refine aL1 S ?_) | ((with_reducible refine gate_st rfl ?_); (first | refine aS1 S ?_ | refine aSt S ?_ | refine aSp S ?_); clear S; intro w9 S))
    have S' := S.allCh ⟨c.id, c.bank, c.st, c.past ++ [c.st], c.knows⟩ I9 J9 h15
    (refine Sep.ret1 S rfl rfl memA Try.underlying33 rfl ts33 rfl ?_)
    rw [B0.out]
    exact ⟨_, _, rfl, S'.left [_]⟩
  · have d1 : decide ((c.past.length : Int) < 90) = false := decide_eq_false (by omega)
    have B0 := Lib.hid (blk_no hlt)
    clear hb hl hlt
    go_enter Try.func102, Try.ntmps102
    go_wp2_with (first | ((with_reducible refine gate_box rfl ?_); refine aBx S ?_; clear S; intro g9 w9 z9 S) | ((with_reducible refine gate_alloc rfl ?_); refine aAl S ?_; clear S; intro g9 w9 z9 S) | ((with_reducible refine gate_load rfl ?_); first | refine aLd S ?_ | refine aPt S ?_ | refine aL1 S ?_) | ((with_reducible refine gate_st rfl ?_); (first | refine aS1 S ?_ | refine aSt S ?_ | refine aSp S ?_); clear S; intro w9 S))
    have S' := S.allCh c I9 J9 h15
    (refine Sep.ret1 S rfl rfl memA Try.underlying33 rfl ts33 rfl ?_)
    rw [B0.out]
    exact ⟨_, _, rfl, S'.left [_]⟩
def chBlockV (c : Ch) : Ch := if okCh c = true then blk c else nilCh
set_option maxHeartbeats 3200000 in
theorem ChainBlock_c (w : World) (c : Ch) (c1 : List Value) (h1 : tCh.rd w c c1) : Calls Try.prog 47 #[.agg c1.toArray] w (RetOwn tCh (chBlockV c) w) := by
  have S := Sep.start w
  have FIN := Lib.hid (fun (W : World) (f : Fr w W) => tCh.fr f h1)
  have LN := Lib.hid (show c1.length = 13 from tCh.len h1)
  cases o1 : okCh c with
  | false =>
    have R := Lib.hid (show chBlockV c = nilCh by unfold chBlockV; rw [o1]; rfl)
    have O1 := Lib.hid o1
    clear o1 h1
    go_enter Try.func47, Try.ntmps47
    go_wp2_with (first
      | (go_at_call 19; (with_reducible refine (ChainOk_r _ c _ (FIN.out _ S.frame) O1.out).mono ?_); rintro e w9 ⟨rfl, f9⟩; replace S := S.fr f9; clear f9)
      | ((with_reducible refine gate_box rfl ?_); refine aBx S ?_; clear S; intro g9 w9 z9 S) | ((with_reducible refine gate_alloc rfl ?_); refine aAl S ?_; clear S; intro g9 w9 z9 S) | ((with_reducible refine gate_load rfl ?_); first | refine aLd S ?_ | refine aPt S ?_ | refine aL1 S ?_) | ((with_reducible refine gate_st rfl ?_); (first | refine aS1 S ?_ | refine aSt S ?_ | refine aSp S ?_); clear S; intro w9 S))
    have S' := S.nilCh
    (refine Sep.ret1 S rfl rfl memA Try.underlying33 rfl ts33 rfl ?_)
    rw [R.out]
    exact S'.retOwn List.mem_cons_self
  | true =>
    have R := Lib.hid (show chBlockV c = blk c by unfold chBlockV; rw [o1]; rfl)
    have HL := Lib.hid (okCh_parts o1).2.2.2.1
    have BL := Lib.hid (show (blk c).past.length ≤ 1000000 by have := blk_len HL.out; omega)
    have HS := Lib.hid (okSt_small (okCh_parts o1).2.2.1)
    have O1 := Lib.hid o1
    clear o1 h1
    go_enter Try.func47, Try.ntmps47
    go_wp2_with (first
      | (go_at_call 19; (with_reducible refine (ChainOk_r _ c _ (FIN.out _ S.frame) O1.out).mono ?_); rintro e w9 ⟨rfl, f9⟩; replace S := S.fr f9; clear f9)
      | (go_at_call 104; (with_reducible refine (linkOf_c _ c _ (FIN.out _ S.frame) O1.out).mono ?_); rintro e w9 ⟨g9, F9, rfl, T9⟩; replace S := S.call01 T9; clear T9)
      | (go_at_call 105; (with_reducible refine (block_c _ g9 c F9 (S.lnk memA) HS.out HL.out).mono ?_); rintro e w9 ⟨rfl, F8, T9⟩; replace S := S.callLnk1 delA T9; clear T9)
      | (go_at_call 65; (with_reducible refine (chain_c _ g9 (blk c) F8 (S.lnk memA) BL.out).mono ?_); rintro e w9 ⟨cs9, G9, rfl, T9⟩; replace S := S.callLnk1 delA T9; clear T9)
      | ((with_reducible refine gate_box rfl ?_); refine aBx S ?_; clear S; intro g9 w9 z9 S) | ((with_reducible refine gate_alloc rfl ?_); refine aAl S ?_; clear S; intro g9 w9 z9 S) | ((with_reducible refine gate_load rfl ?_); first | refine aLd S ?_ | refine aPt S ?_ | refine aL1 S ?_) | ((with_reducible refine gate_st rfl ?_); (first | refine aS1 S ?_ | refine aSt S ?_ | refine aSp S ?_); clear S; intro w9 S))
    (refine Sep.ret1 S rfl rfl memA Try.underlying33 rfl ts33 rfl ?_)
    rw [R.out]
    exact S.retOwn memA
set_option maxHeartbeats 3200000 in
theorem sChainBlock_c (w : World) (c : Ch) (c1 : List Value) (h1 : tCh.rd w c c1) : Calls Try.prog 46 #[.agg c1.toArray] w (RetOwn tCh (chBlockV c) w) := by
  have S := Sep.start w
  have FIN := Lib.hid (fun (W : World) (f : Fr w W) => tCh.fr f h1)
  have LN := Lib.hid (show c1.length = 13 from tCh.len h1)
  cases o1 : okCh c with
  | false =>
    have R := Lib.hid (show chBlockV c = nilCh by unfold chBlockV; rw [o1]; rfl)
    have O1 := Lib.hid o1
    clear o1 h1
    go_enter Try.func46, Try.ntmps46
    go_wp2_with (first
      | (go_at_call 33; (with_reducible refine (sChainOk_r _ c _ (FIN.out _ S.frame) O1.out).mono ?_); rintro e w9 ⟨rfl, f9⟩; replace S := S.fr f9; clear f9)
      | ((with_reducible refine gate_box rfl ?_); refine aBx S ?_; clear S; intro g9 w9 z9 S) | ((with_reducible refine gate_alloc rfl ?_); refine aAl S ?_; clear S; intro g9 w9 z9 S) | ((with_reducible refine gate_load rfl ?_); first | refine aLd S ?_ | refine aPt S ?_ | refine aL1 S ?_) | ((with_reducible refine gate_st rfl ?_); (first | refine aS1 S ?_ | refine aSt S ?_ | refine aSp S ?_); clear S; intro w9 S))
    have S' := S.nilCh
    (refine Sep.ret1 S rfl rfl memA Try.underlying33 rfl ts33 rfl ?_)
    rw [R.out]
    exact S'.retOwn List.mem_cons_self
  | true =>
    have R := Lib.hid (show chBlockV c = blk c by unfold chBlockV; rw [o1]; rfl)
    have HL := Lib.hid (okCh_parts o1).2.2.2.1
    have HS := Lib.hid (okSt_small (okCh_parts o1).2.2.1)
    have O1 := Lib.hid o1
    clear o1 h1
    go_enter Try.func46, Try.ntmps46
    go_wp2_with (first
      | (go_at_call 33; (with_reducible refine (sChainOk_r _ c _ (FIN.out _ S.frame) O1.out).mono ?_); rintro e w9 ⟨rfl, f9⟩; replace S := S.fr f9; clear f9)
      | (go_at_call 103; (with_reducible refine (l12Copy_c _ c _ (FIN.out _ S.frame) O1.out).mono ?_); rintro e w9 ⟨cs9, F9, rfl, h9, n9, b9, f9⟩; replace S := S.new (aOwn tCh _ cs9 F9) h9 n9 b9 f9; clear h9 n9 b9 f9)
      | (go_at_call 102; (with_reducible refine (l12Block_c _ c _ _ (S.ownOk memA) HS.out HL.out).mono ?_); rintro e w9 ⟨cs8, F8, rfl, T9⟩; replace S := S.callCh1 delA T9; clear T9)
      | ((with_reducible refine gate_box rfl ?_); refine aBx S ?_; clear S; intro g9 w9 z9 S) | ((with_reducible refine gate_alloc rfl ?_); refine aAl S ?_; clear S; intro g9 w9 z9 S) | ((with_reducible refine gate_load rfl ?_); first | refine aLd S ?_ | refine aPt S ?_ | refine aL1 S ?_) | ((with_reducible refine gate_st rfl ?_); (first | refine aS1 S ?_ | refine aSt S ?_ | refine aSp S ?_); clear S; intro w9 S))
    (refine Sep.ret1 S rfl rfl memA Try.underlying33 rfl ts33 rfl ?_)
    rw [R.out]
    exact S.retOwn memA
theorem ChainBlock_e (w : World) (c : Ch) (c1 : List Value) (h1 : tCh.rd w c c1) {x : Ch} (hR : chBlockV c = x) : Calls Try.prog 47 #[.agg c1.toArray] w (RetOwn tCh x w) := hR ▸ ChainBlock_c w c c1 h1
theorem sChainBlock_e (w : World) (c : Ch) (c1 : List Value) (h1 : tCh.rd w c c1) {x : Ch} (hR : chBlockV c = x) : Calls Try.prog 46 #[.agg c1.toArray] w (RetOwn tCh x w) := hR ▸ sChainBlock_c w c c1 h1
end Go.Proofs.Ytapdcgjccckjeaa
