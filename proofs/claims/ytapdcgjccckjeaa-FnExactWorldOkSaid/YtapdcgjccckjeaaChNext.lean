/- The program's and the reference's ChainNext. -/
import Derived.Test.YtapdcgjccckjeaaChOkS
namespace Go.Proofs.Ytapdcgjccckjeaa
set_option maxRecDepth 100000
set_option linter.unusedVariables false
set_option linter.unusedSimpArgs false
open Go.RowKit
theorem ChainOk_r (w : World) (c : Ch) (c1 : List Value) (h1 : tCh.rd w c c1) {r : Bool} (h : okCh c = r) : Calls Try.prog 19 #[.agg c1.toArray] w (Ret (.bool r) w) := h ▸ ChainOk_c w c c1 h1
theorem sChainOk_r (w : World) (c : Ch) (c1 : List Value) (h1 : tCh.rd w c c1) {r : Bool} (h : okCh c = r) : Calls Try.prog 33 #[.agg c1.toArray] w (Ret (.bool r) w) := h ▸ sChainOk_c w c c1 h1
theorem okCh_parts {c : Ch} (h : okCh c = true) : (1 ≤ c.id ∧ c.id ≤ 2) ∧ okBk c.bank = true ∧ okSt c.st = true ∧ c.past.length ≤ 90 ∧ c.past.all okSt = true ∧ knOk c.knows = true := by
  unfold okCh at h
  simp only [Bool.and_eq_true, decide_eq_true_eq] at h
  exact ⟨h.1, h.2.1, h.2.2.1, h.2.2.2.1, h.2.2.2.2.1, h.2.2.2.2.2⟩
theorem tSt_rows {w : World} {s : St} {v1 v2 v3 v4 : Value} (h : tSt.rd w s [.int .i64 s.way, .int .i64 s.vsn, .int .i64 s.want, v1, v2, v3, v4]) : tPk.row w v1 s.sent ∧ tBool.row w v2 s.live ∧ tBool.row w v3 s.back ∧ tInt.row w v4 s.got ∧ (I64 s.way ∧ I64 s.vsn ∧ I64 s.want) := by
  obtain ⟨u1, u2, u3, u4, e, h1, h2, h3, h4, h5⟩ := h
  simp only [List.cons.injEq, and_true, true_and] at e
  obtain ⟨rfl, rfl, rfl, rfl⟩ := e
  exact ⟨h1, h2, h3, h4, h5⟩
theorem tBk_rows {w : World} {b : Bk} {v1 v2 : Value} (h : tBk.rd w b [v1, v2, .int .i64 b.locked]) : tInt.row w v1 b.own ∧ tInt.row w v2 b.notes ∧ I64 b.locked := by
  obtain ⟨u1, u2, e, h1, h2, h3⟩ := h
  simp only [List.cons.injEq, and_true] at e
  obtain ⟨rfl, rfl⟩ := e
  exact ⟨h1, h2, h3⟩
def nextH (c : Ch) : Int := if okCh c = true then (if c.past.length = 90 then 0 else (c.past.length : Int) + 1) else 0
def nextS (c : Ch) : Int := if okCh c = true then (if c.st.sent.length = 8 then 0 else (c.st.sent.length : Int) + 1) else 0
def RetII (a b : Int) (w : World) : Ending → World → Prop := fun e w' => e = .returned (.tuple #[.int .i64 a, .int .i64 b]) ∧ Fr w w'
theorem ret_ii {a b c d : Int} (h : a = c) (k : b = d) : Ending.returned (.tuple #[.int .i64 a, .int .i64 b]) = .returned (.tuple #[.int .i64 c, .int .i64 d]) := by rw [h, k]
set_option maxHeartbeats 3200000 in
theorem ChainNext_c (w : World) (c : Ch) (c1 : List Value) (h1 : tCh.rd w c c1) : Calls Try.prog 36 #[.agg c1.toArray] w (RetII (nextH c) (nextS c) w) := by
  have FIN := Lib.hid (fun (W : World) (f : Fr w W) => tCh.fr f h1)
  have S := Sep.start w
  cases o1 : okCh c with
  | false =>
    have H := Lib.hid (show nextH c = 0 by unfold nextH; rw [o1]; rfl)
    have T := Lib.hid (show nextS c = 0 by unfold nextS; rw [o1]; rfl)
    have LN := Lib.hid (show c1.length = 13 from tCh.len h1)
    have O1 := Lib.hid o1
    clear o1 h1
    go_enter Try.func36, Try.ntmps36
    go_wp2_with (first
      | (go_at_call 19; (with_reducible refine (ChainOk_r _ c _ (FIN.out _ S.frame) O1.out).mono ?_); rintro e w9 ⟨rfl, f9⟩; replace S := S.fr f9; clear f9)
      | ((with_reducible refine gate_box rfl ?_); refine aBx S ?_; clear S; intro g9 w9 z9 S) | ((with_reducible refine gate_alloc rfl ?_); refine aAl S ?_; clear S; intro g9 w9 z9 S) | ((with_reducible refine gate_load rfl ?_); first | refine aLd S ?_ | refine aPt S ?_ | refine aL1 S ?_) | ((with_reducible refine gate_st rfl ?_); (first | refine aS1 S ?_ | refine aSt S ?_ | refine aSp S ?_); clear S; intro w9 S))
    refine bodyPost_ret (results_tmp2 rfl _ _ _) rfl ?_
    exact ⟨ret_ii H.out.symm T.out.symm, S.frame⟩
  | true =>
  obtain ⟨b1, b2, s1, s2, s3, s4, v1, v2, rfl, h11, h12, h13, h14, h15⟩ := h1
  obtain ⟨g1, _⟩ := tSt_rows h12
  obtain ⟨A1, n1, rfl⟩ := h13.val
  obtain ⟨A3, n3, rfl⟩ := g1.val
  obtain ⟨p1, p2, p3, p4, p5, p6⟩ := okCh_parts o1
  have p7 := (okSt_len p3).1
  have O1 := Lib.hid o1
  clear p5 p6 h11 h12 h13 h14 h15 g1
  have x1 : IntKind.i64.wrap ((c.past.length : Int) + 1) = (c.past.length : Int) + 1 := IntWalk.i64_in _ (by omega)
  have x2 : IntKind.i64.wrap ((c.st.sent.length : Int) + 1) = (c.st.sent.length : Int) + 1 := IntWalk.i64_in _ (by omega)
  by_cases e1 : c.past.length = 90
  all_goals
    by_cases e2 : c.st.sent.length = 8
    all_goals
      first
        | (have d1 : decide (90 < (c.past.length : Int) + 1) = true := decide_eq_true (by omega); have H := Lib.hid (show nextH c = 0 by unfold nextH; rw [o1, if_pos rfl, if_pos e1]))
        | (have d1 : decide (90 < (c.past.length : Int) + 1) = false := decide_eq_false (by omega); have H := Lib.hid (show nextH c = (c.past.length : Int) + 1 by unfold nextH; rw [o1, if_pos rfl, if_neg e1]))
      first
        | (have d2 : decide (8 < (c.st.sent.length : Int) + 1) = true := decide_eq_true (by omega); have T := Lib.hid (show nextS c = 0 by unfold nextS; rw [o1, if_pos rfl, if_pos e2]))
        | (have d2 : decide (8 < (c.st.sent.length : Int) + 1) = false := decide_eq_false (by omega); have T := Lib.hid (show nextS c = (c.st.sent.length : Int) + 1 by unfold nextS; rw [o1, if_pos rfl, if_neg e2]))
      clear o1 e1 e2
      go_enter Try.func36, Try.ntmps36
      go_wp2_with (first
        | (go_at_call 19; (with_reducible refine (ChainOk_r _ c _ (FIN.out _ S.frame) O1.out).mono ?_); rintro e w9 ⟨rfl, f9⟩; replace S := S.fr f9; clear f9)
        | ((with_reducible refine gate_box rfl ?_); refine aBx S ?_; clear S; intro g9 w9 z9 S) | ((with_reducible refine gate_alloc rfl ?_); refine aAl S ?_; clear S; intro g9 w9 z9 S) | ((with_reducible refine gate_load rfl ?_); first | refine aLd S ?_ | refine aPt S ?_ | refine aL1 S ?_) | ((with_reducible refine gate_st rfl ?_); (first | refine aS1 S ?_ | refine aSt S ?_ | refine aSp S ?_); clear S; intro w9 S))
      have S0 := S
      refine wp_region_noPanic ?_
      refine wp_region_held_drew (S := Sep _ _ _) (by kernel_rfl) S0.drew (fun _ => ?_)
      replace S := S.drew
      clear S0
      refine tk 0 ?_
      (try simp only [Act.put, List.setIfInBounds_toArray, List.set_cons_zero, List.set_cons_succ])
      refine tk 1 ?_
      (try simp only [Act.put, List.setIfInBounds_toArray, List.set_cons_zero, List.set_cons_succ])
      refine tk 4 ?_
      (try simp only [Act.put, List.setIfInBounds_toArray, List.set_cons_zero, List.set_cons_succ])
      refine tk 5 ?_
      (try simp only [Act.put, List.setIfInBounds_toArray, List.set_cons_zero, List.set_cons_succ])
      refine tk 6 ?_
      (try simp only [Act.put, List.setIfInBounds_toArray, List.set_cons_zero, List.set_cons_succ])
      refine rdys [2, 7] ?_
      refine rdc 2 (fun K hK => ?_) ?_
      · go_simp
        (first | refine hK.out _ _ (S.sub subA) (fun _ => ?_) | (go_wp2_with fail; refine hK.out _ _ (S.sub subA) (fun _ => ?_)))
        clear hK K
        (try simp only [Act.put, List.setIfInBounds_toArray, List.set_cons_zero, List.set_cons_succ])
        refine tk 3 ?_
        (try simp only [Act.put, List.setIfInBounds_toArray, List.set_cons_zero, List.set_cons_succ])
        refine tk 9 ?_
        (try simp only [Act.put, List.setIfInBounds_toArray, List.set_cons_zero, List.set_cons_succ])
        refine rdy1 7 (fun K hK => ?_)
        go_simp
        (first | refine hK.out _ _ (S.sub subA) (fun _ => ?_) | (go_wp2_with fail; refine hK.out _ _ (S.sub subA) (fun _ => ?_)))
        clear hK K
        (try simp only [Act.put, List.setIfInBounds_toArray, List.set_cons_zero, List.set_cons_succ])
        refine tk 8 ?_
        (try simp only [Act.put, List.setIfInBounds_toArray, List.set_cons_zero, List.set_cons_succ])
        refine tk 10 ?_
        (try simp only [Act.put, List.setIfInBounds_toArray, List.set_cons_zero, List.set_cons_succ])
        refine wpAnyH_done (by kernel_rfl) ?_ _
        refine NoPanic.normal ?_
        go_wp2
        refine bodyPost_ret (results_tmp2 rfl _ _ _) rfl ?_
        exact ⟨ret_ii H.out.symm T.out.symm, S.frame⟩
      refine rdc 7 (fun K hK => ?_) AllReadyH.nil
      go_simp
      (first | refine hK.out _ _ (S.sub subA) (fun _ => ?_) | (go_wp2_with fail; refine hK.out _ _ (S.sub subA) (fun _ => ?_)))
      clear hK K
      (try simp only [Act.put, List.setIfInBounds_toArray, List.set_cons_zero, List.set_cons_succ])
      refine tk 8 ?_
      (try simp only [Act.put, List.setIfInBounds_toArray, List.set_cons_zero, List.set_cons_succ])
      refine rdy1 2 (fun K hK => ?_)
      go_simp
      (first | refine hK.out _ _ (S.sub subA) (fun _ => ?_) | (go_wp2_with fail; refine hK.out _ _ (S.sub subA) (fun _ => ?_)))
      clear hK K
      (try simp only [Act.put, List.setIfInBounds_toArray, List.set_cons_zero, List.set_cons_succ])
      refine tk 3 ?_
      (try simp only [Act.put, List.setIfInBounds_toArray, List.set_cons_zero, List.set_cons_succ])
      refine tk 9 ?_
      (try simp only [Act.put, List.setIfInBounds_toArray, List.set_cons_zero, List.set_cons_succ])
      refine tk 10 ?_
      (try simp only [Act.put, List.setIfInBounds_toArray, List.set_cons_zero, List.set_cons_succ])
      refine wpAnyH_done (by kernel_rfl) ?_ _
      refine NoPanic.normal ?_
      go_wp2
      refine bodyPost_ret (results_tmp2 rfl _ _ _) rfl ?_
      exact ⟨ret_ii H.out.symm T.out.symm, S.frame⟩
set_option maxHeartbeats 3200000 in
theorem sChainNext_c (w : World) (c : Ch) (c1 : List Value) (h1 : tCh.rd w c c1) : Calls Try.prog 35 #[.agg c1.toArray] w (RetII (nextH c) (nextS c) w) := by
  have FIN := Lib.hid (fun (W : World) (f : Fr w W) => tCh.fr f h1)
  have S := Sep.start w
  cases o1 : okCh c with
  | false =>
    have H := Lib.hid (show nextH c = 0 by unfold nextH; rw [o1]; rfl)
    have T := Lib.hid (show nextS c = 0 by unfold nextS; rw [o1]; rfl)
    have LN := Lib.hid (show c1.length = 13 from tCh.len h1)
    have O1 := Lib.hid o1
    clear o1 h1
    go_enter Try.func35, Try.ntmps35
    go_wp2_with (first
      | (go_at_call 33; (with_reducible refine (sChainOk_r _ c _ (FIN.out _ S.frame) O1.out).mono ?_); rintro e w9 ⟨rfl, f9⟩; replace S := S.fr f9; clear f9)
      | ((with_reducible refine gate_box rfl ?_); refine aBx S ?_; clear S; intro g9 w9 z9 S) | ((with_reducible refine gate_alloc rfl ?_); refine aAl S ?_; clear S; intro g9 w9 z9 S) | ((with_reducible refine gate_load rfl ?_); first | refine aLd S ?_ | refine aPt S ?_ | refine aL1 S ?_) | ((with_reducible refine gate_st rfl ?_); (first | refine aS1 S ?_ | refine aSt S ?_ | refine aSp S ?_); clear S; intro w9 S))
    refine bodyPost_ret (results_tmp2 rfl _ _ _) rfl ?_
    exact ⟨ret_ii H.out.symm T.out.symm, S.frame⟩
  | true =>
  obtain ⟨b1, b2, s1, s2, s3, s4, v1, v2, rfl, h11, h12, h13, h14, h15⟩ := h1
  obtain ⟨g1, _⟩ := tSt_rows h12
  obtain ⟨A1, n1, rfl⟩ := h13.val
  obtain ⟨A3, n3, rfl⟩ := g1.val
  obtain ⟨p1, p2, p3, p4, p5, p6⟩ := okCh_parts o1
  have p7 := (okSt_len p3).1
  have O1 := Lib.hid o1
  clear p5 p6 h11 h12 h13 h14 h15 g1
  have x1 : IntKind.i64.wrap ((c.past.length : Int) + 1) = (c.past.length : Int) + 1 := IntWalk.i64_in _ (by omega)
  have x2 : IntKind.i64.wrap ((c.st.sent.length : Int) + 1) = (c.st.sent.length : Int) + 1 := IntWalk.i64_in _ (by omega)
  by_cases e1 : c.past.length = 90
  all_goals
    by_cases e2 : c.st.sent.length = 8
    all_goals
      first
        | (have d1 : decide (90 < (c.past.length : Int) + 1) = true := decide_eq_true (by omega); have H := Lib.hid (show nextH c = 0 by unfold nextH; rw [o1, if_pos rfl, if_pos e1]))
        | (have d1 : decide (90 < (c.past.length : Int) + 1) = false := decide_eq_false (by omega); have H := Lib.hid (show nextH c = (c.past.length : Int) + 1 by unfold nextH; rw [o1, if_pos rfl, if_neg e1]))
      first
        | (have d2 : decide (8 < (c.st.sent.length : Int) + 1) = true := decide_eq_true (by omega); have T := Lib.hid (show nextS c = 0 by unfold nextS; rw [o1, if_pos rfl, if_pos e2]))
        | (have d2 : decide (8 < (c.st.sent.length : Int) + 1) = false := decide_eq_false (by omega); have T := Lib.hid (show nextS c = (c.st.sent.length : Int) + 1 by unfold nextS; rw [o1, if_pos rfl, if_neg e2]))
      clear o1 e1 e2
      go_enter Try.func35, Try.ntmps35
      go_wp2_with (first
        | (go_at_call 33; (with_reducible refine (sChainOk_r _ c _ (FIN.out _ S.frame) O1.out).mono ?_); rintro e w9 ⟨rfl, f9⟩; replace S := S.fr f9; clear f9)
        | ((with_reducible refine gate_box rfl ?_); refine aBx S ?_; clear S; intro g9 w9 z9 S) | ((with_reducible refine gate_alloc rfl ?_); refine aAl S ?_; clear S; intro g9 w9 z9 S) | ((with_reducible refine gate_load rfl ?_); first | refine aLd S ?_ | refine aPt S ?_ | refine aL1 S ?_) | ((with_reducible refine gate_st rfl ?_); (first | refine aS1 S ?_ | refine aSt S ?_ | refine aSp S ?_); clear S; intro w9 S))
      refine bodyPost_ret (results_tmp2 rfl _ _ _) rfl ?_
      exact ⟨ret_ii H.out.symm T.out.symm, S.frame⟩
end Go.Proofs.Ytapdcgjccckjeaa
