/- The texts ChNext, WdN, Lnk, BankNew, StNew, LnkC, LnkD, LnkE, ChNew, WdP, Draw, DrawOpen. -/
import Derived.Test.YtapdcgjccckjeaaPkFnChainNewE
import Derived.RegionTactic
import Derived.Test.YtapdcgjccckjeaaProg
import Derived.Deep.QuietTactic
import Derived.BigQuiet
import Derived.Laws.BitsLemmas
namespace Go.Proofs.Ytapdcgjccckjeaa
set_option maxRecDepth 100000
set_option linter.unusedVariables false
set_option linter.unusedSimpArgs false
open Go.RowKit
theorem ChainOk_r (w : World) (c : Ch) (c1 : List Value) (h1 : tCh.rd w c c1) {r : Bool} (h : okCh c = r) : Calls Try.prog 19 #[.agg c1.toArray] w (Ret (.bool r) w) := h ▸ ChainOk_c w c c1 h1
theorem sChainOk_r (w : World) (c : Ch) (c1 : List Value) (h1 : tCh.rd w c c1) {r : Bool} (h : okCh c = r) : Calls Try.prog 33 #[.agg c1.toArray] w (Ret (.bool r) w) := h ▸ sChainOk_c w c c1 h1
theorem okCh_parts {c : Ch} (h : okCh c = true) : (1 ≤ c.id ∧ c.id ≤ 2) ∧ okBk c.bank = true ∧ okSt c.st = true ∧ c.past.length ≤ 90 ∧ c.past.all okSt = true ∧ knOk c.knows = true := by
  unfold okCh at h
  simp only [Bool.and_eq_true, decide_eq_true_eq] at h
  exact ⟨h.1, h.2.1, h.2.2.1, h.2.2.2.1, h.2.2.2.2.1, h.2.2.2.2.2⟩
theorem tSt_rows {w : World} {s : St} {v1 v2 v3 v4 : Value} (h : tSt.rd w s [.int .i64 s.way, .int .i64 s.vsn, .int .i64 s.want, v1, v2, v3, v4]) : tPk.row w v1 s.sent ∧ tBool.row w v2 s.live ∧ tBool.row w v3 s.back ∧ tInt.row w v4 s.got ∧ (I64 s.way ∧ I64 s.vsn ∧ I64 s.want) := by
  obtain ⟨u1, u2, u3, u4, e, h1, h2, h3, h4, h5⟩ := h
  simp only [List.cons.injEq, and_true, true_and] at e
  obtain ⟨rfl, rfl, rfl, rfl⟩ := e
  exact ⟨h1, h2, h3, h4, h5⟩
theorem tBk_rows {w : World} {b : Bk} {v1 v2 : Value} (h : tBk.rd w b [v1, v2, .int .i64 b.locked]) : tInt.row w v1 b.own ∧ tInt.row w v2 b.notes ∧ I64 b.locked := by
  obtain ⟨u1, u2, e, h1, h2, h3⟩ := h
  simp only [List.cons.injEq, and_true] at e
  obtain ⟨rfl, rfl⟩ := e
  exact ⟨h1, h2, h3⟩
def nextH (c : Ch) : Int := if okCh c = true then (if c.past.length = 90 then 0 else (c.past.length : Int) + 1) else 0
def nextS (c : Ch) : Int := if okCh c = true then (if c.st.sent.length = 8 then 0 else (c.st.sent.length : Int) + 1) else 0
def RetII (a b : Int) (w : World) : Ending → World → Prop := fun e w' => e = .returned (.tuple #[.int .i64 a, .int .i64 b]) ∧ Fr w w'
theorem ret_ii {a b c d : Int} (h : a = c) (k : b = d) : Ending.returned (.tuple #[.int .i64 a, .int .i64 b]) = .returned (.tuple #[.int .i64 c, .int .i64 d]) := by rw [h, k]
set_option maxHeartbeats 3200000 in
theorem ChainNext_c (w : World) (c : Ch) (c1 : List Value) (h1 : tCh.rd w c c1) : Calls Try.prog 36 #[.agg c1.toArray] w (RetII (nextH c) (nextS c) w) := by
  have FIN := Lib.hid (fun (W : World) (f : Fr w W) => tCh.fr f h1)
  have S := Sep.start w
  cases o1 : okCh c with
  | false =>
    have H := Lib.hid (show nextH c = 0 by unfold nextH; rw [o1]; rfl)
    have T := Lib.hid (show nextS c = 0 by unfold nextS; rw [o1]; rfl)
    have LN := Lib.hid (show c1.length = 13 from tCh.len h1)
    have O1 := Lib.hid o1
    clear o1 h1
    go_enter Try.func36, Try.ntmps36
    go_wp2_with (first
      | (go_at_call 19; (with_reducible refine (ChainOk_r _ c _ (FIN.out _ S.frame) O1.out).mono ?_); rintro e w9 ⟨rfl, f9⟩; replace S := S.fr f9; clear f9)
      | ((with_reducible refine gate_box rfl ?_); refine aBx S ?_; clear S; intro g9 w9 z9 S) | ((with_reducible refine gate_alloc rfl ?_); refine aAl S ?_; clear S; intro g9 w9 z9 S) | ((with_reducible refine gate_load rfl ?_); first | refine aLd S ?_ | refine aPt S ?_ | refine aL1 S ?_) | ((with_reducible refine gate_st rfl ?_); (first | refine aS1 S ?_ | refine aSt S ?_ | refine aSp S ?_); clear S; intro w9 S))
    refine bodyPost_ret (results_tmp2 rfl _ _ _) rfl ?_
    exact ⟨ret_ii H.out.symm T.out.symm, S.frame⟩
  | true =>
  obtain ⟨b1, b2, s1, s2, s3, s4, v1, v2, rfl, h11, h12, h13, h14, h15⟩ := h1
  obtain ⟨g1, _⟩ := tSt_rows h12
  obtain ⟨A1, n1, rfl⟩ := h13.val
  obtain ⟨A3, n3, rfl⟩ := g1.val
  obtain ⟨p1, p2, p3, p4, p5, p6⟩ := okCh_parts o1
  have p7 := (okSt_len p3).1
  have O1 := Lib.hid o1
  clear p5 p6 h11 h12 h13 h14 h15 g1
  have x1 : IntKind.i64.wrap ((c.past.length : Int) + 1) = (c.past.length : Int) + 1 := IntWalk.i64_in _ (by omega)
  have x2 : IntKind.i64.wrap ((c.st.sent.length : Int) + 1) = (c.st.sent.length : Int) + 1 := IntWalk.i64_in _ (by omega)
  by_cases e1 : c.past.length = 90
  all_goals
    by_cases e2 : c.st.sent.length = 8
    all_goals
      first
        | (have d1 : decide (90 < (c.past.length : Int) + 1) = true := decide_eq_true (by omega); have H := Lib.hid (show nextH c = 0 by unfold nextH; rw [o1, if_pos rfl, if_pos e1]))
        | (have d1 : decide (90 < (c.past.length : Int) + 1) = false := decide_eq_false (by omega); have H := Lib.hid (show nextH c = (c.past.length : Int) + 1 by unfold nextH; rw [o1, if_pos rfl, if_neg e1]))
      first
        | (have d2 : decide (8 < (c.st.sent.length : Int) + 1) = true := decide_eq_true (by omega); have T := Lib.hid (show nextS c = 0 by unfold nextS; rw [o1, if_pos rfl, if_pos e2]))
        | (have d2 : decide (8 < (c.st.sent.length : Int) + 1) = false := decide_eq_false (by omega); have T := Lib.hid (show nextS c = (c.st.sent.length : Int) + 1 by unfold nextS; rw [o1, if_pos rfl, if_neg e2]))
      clear o1 e1 e2
      go_enter Try.func36, Try.ntmps36
      go_wp2_with (first
        | (go_at_call 19; (with_reducible refine (ChainOk_r _ c _ (FIN.out _ S.frame) O1.out).mono ?_); rintro e w9 ⟨rfl, f9⟩; replace S := S.fr f9; clear f9)
        | ((with_reducible refine gate_box rfl ?_); refine aBx S ?_; clear S; intro g9 w9 z9 S) | ((with_reducible refine gate_alloc rfl ?_); refine aAl S ?_; clear S; intro g9 w9 z9 S) | ((with_reducible refine gate_load rfl ?_); first | refine aLd S ?_ | refine aPt S ?_ | refine aL1 S ?_) | ((with_reducible refine gate_st rfl ?_); (first | refine aS1 S ?_ | refine aSt S ?_ | refine aSp S ?_); clear S; intro w9 S))
      have S0 := S
      refine wp_region_noPanic ?_
      refine wp_region_held_drew (S := Sep _ _ _) (by kernel_rfl) S0.drew (fun _ => ?_)
      replace S := S.drew
      clear S0
      refine tk 0 ?_
      (try simp only [Act.put, List.setIfInBounds_toArray, List.set_cons_zero, List.set_cons_succ])
      refine tk 1 ?_
      (try simp only [Act.put, List.setIfInBounds_toArray, List.set_cons_zero, List.set_cons_succ])
      refine tk 4 ?_
      (try simp only [Act.put, List.setIfInBounds_toArray, List.set_cons_zero, List.set_cons_succ])
      refine tk 5 ?_
      (try simp only [Act.put, List.setIfInBounds_toArray, List.set_cons_zero, List.set_cons_succ])
      refine tk 6 ?_
      (try simp only [Act.put, List.setIfInBounds_toArray, List.set_cons_zero, List.set_cons_succ])
      refine rdys [2, 7] ?_
      refine rdc 2 (fun K hK => ?_) ?_
      · go_simp
        (first | refine hK.out _ _ (S.sub subA) (fun _ => ?_) | (go_wp2_with fail; refine hK.out _ _ (S.sub subA) (fun _ => ?_)))
        clear hK K
        (try simp only [Act.put, List.setIfInBounds_toArray, List.set_cons_zero, List.set_cons_succ])
        refine tk 3 ?_
        (try simp only [Act.put, List.setIfInBounds_toArray, List.set_cons_zero, List.set_cons_succ])
        refine tk 9 ?_
        (try simp only [Act.put, List.setIfInBounds_toArray, List.set_cons_zero, List.set_cons_succ])
        refine rdy1 7 (fun K hK => ?_)
        go_simp
        (first | refine hK.out _ _ (S.sub subA) (fun _ => ?_) | (go_wp2_with fail; refine hK.out _ _ (S.sub subA) (fun _ => ?_)))
        clear hK K
        (try simp only [Act.put, List.setIfInBounds_toArray, List.set_cons_zero, List.set_cons_succ])
        refine tk 8 ?_
        (try simp only [Act.put, List.setIfInBounds_toArray, List.set_cons_zero, List.set_cons_succ])
        refine tk 10 ?_
        (try simp only [Act.put, List.setIfInBounds_toArray, List.set_cons_zero, List.set_cons_succ])
        refine wpAnyH_done (by kernel_rfl) ?_ _
        refine NoPanic.normal ?_
        go_wp2
        refine bodyPost_ret (results_tmp2 rfl _ _ _) rfl ?_
        exact ⟨ret_ii H.out.symm T.out.symm, S.frame⟩
      refine rdc 7 (fun K hK => ?_) AllReadyH.nil
      go_simp
      (first | refine hK.out _ _ (S.sub subA) (fun _ => ?_) | (go_wp2_with fail; refine hK.out _ _ (S.sub subA) (fun _ => ?_)))
      clear hK K
      (try simp only [Act.put, List.setIfInBounds_toArray, List.set_cons_zero, List.set_cons_succ])
      refine tk 8 ?_
      (try simp only [Act.put, List.setIfInBounds_toArray, List.set_cons_zero, List.set_cons_succ])
      refine rdy1 2 (fun K hK => ?_)
      go_simp
      (first | refine hK.out _ _ (S.sub subA) (fun _ => ?_) | (go_wp2_with fail; refine hK.out _ _ (S.sub subA) (fun _ => ?_)))
      clear hK K
      (try simp only [Act.put, List.setIfInBounds_toArray, List.set_cons_zero, List.set_cons_succ])
      refine tk 3 ?_
      (try simp only [Act.put, List.setIfInBounds_toArray, List.set_cons_zero, List.set_cons_succ])
      refine tk 9 ?_
      (try simp only [Act.put, List.setIfInBounds_toArray, List.set_cons_zero, List.set_cons_succ])
      refine tk 10 ?_
      (try simp only [Act.put, List.setIfInBounds_toArray, List.set_cons_zero, List.set_cons_succ])
      refine wpAnyH_done (by kernel_rfl) ?_ _
      refine NoPanic.normal ?_
      go_wp2
      refine bodyPost_ret (results_tmp2 rfl _ _ _) rfl ?_
      exact ⟨ret_ii H.out.symm T.out.symm, S.frame⟩
set_option maxHeartbeats 3200000 in
theorem sChainNext_c (w : World) (c : Ch) (c1 : List Value) (h1 : tCh.rd w c c1) : Calls Try.prog 35 #[.agg c1.toArray] w (RetII (nextH c) (nextS c) w) := by
  have FIN := Lib.hid (fun (W : World) (f : Fr w W) => tCh.fr f h1)
  have S := Sep.start w
  cases o1 : okCh c with
  | false =>
    have H := Lib.hid (show nextH c = 0 by unfold nextH; rw [o1]; rfl)
    have T := Lib.hid (show nextS c = 0 by unfold nextS; rw [o1]; rfl)
    have LN := Lib.hid (show c1.length = 13 from tCh.len h1)
    have O1 := Lib.hid o1
    clear o1 h1
    go_enter Try.func35, Try.ntmps35
    go_wp2_with (first
      | (go_at_call 33; (with_reducible refine (sChainOk_r _ c _ (FIN.out _ S.frame) O1.out).mono ?_); rintro e w9 ⟨rfl, f9⟩; replace S := S.fr f9; clear f9)
      | ((with_reducible refine gate_box rfl ?_); refine aBx S ?_; clear S; intro g9 w9 z9 S) | ((with_reducible refine gate_alloc rfl ?_); refine aAl S ?_; clear S; intro g9 w9 z9 S) | ((with_reducible refine gate_load rfl ?_); first | refine aLd S ?_ | refine aPt S ?_ | refine aL1 S ?_) | ((with_reducible refine gate_st rfl ?_); (first | refine aS1 S ?_ | refine aSt S ?_ | refine aSp S ?_); clear S; intro w9 S))
    refine bodyPost_ret (results_tmp2 rfl _ _ _) rfl ?_
    exact ⟨ret_ii H.out.symm T.out.symm, S.frame⟩
  | true =>
  obtain ⟨b1, b2, s1, s2, s3, s4, v1, v2, rfl, h11, h12, h13, h14, h15⟩ := h1
  obtain ⟨g1, _⟩ := tSt_rows h12
  obtain ⟨A1, n1, rfl⟩ := h13.val
  obtain ⟨A3, n3, rfl⟩ := g1.val
  obtain ⟨p1, p2, p3, p4, p5, p6⟩ := okCh_parts o1
  have p7 := (okSt_len p3).1
  have O1 := Lib.hid o1
  clear p5 p6 h11 h12 h13 h14 h15 g1
  have x1 : IntKind.i64.wrap ((c.past.length : Int) + 1) = (c.past.length : Int) + 1 := IntWalk.i64_in _ (by omega)
  have x2 : IntKind.i64.wrap ((c.st.sent.length : Int) + 1) = (c.st.sent.length : Int) + 1 := IntWalk.i64_in _ (by omega)
  by_cases e1 : c.past.length = 90
  all_goals
    by_cases e2 : c.st.sent.length = 8
    all_goals
      first
        | (have d1 : decide (90 < (c.past.length : Int) + 1) = true := decide_eq_true (by omega); have H := Lib.hid (show nextH c = 0 by unfold nextH; rw [o1, if_pos rfl, if_pos e1]))
        | (have d1 : decide (90 < (c.past.length : Int) + 1) = false := decide_eq_false (by omega); have H := Lib.hid (show nextH c = (c.past.length : Int) + 1 by unfold nextH; rw [o1, if_pos rfl, if_neg e1]))
      first
        | (have d2 : decide (8 < (c.st.sent.length : Int) + 1) = true := decide_eq_true (by omega); have T := Lib.hid (show nextS c = 0 by unfold nextS; rw [o1, if_pos rfl, if_pos e2]))
        | (have d2 : decide (8 < (c.st.sent.length : Int) + 1) = false := decide_eq_false (by omega); have T := Lib.hid (show nextS c = (c.st.sent.length : Int) + 1 by unfold nextS; rw [o1, if_pos rfl, if_neg e2]))
      clear o1 e1 e2
      go_enter Try.func35, Try.ntmps35
      go_wp2_with (first
        | (go_at_call 33; (with_reducible refine (sChainOk_r _ c _ (FIN.out _ S.frame) O1.out).mono ?_); rintro e w9 ⟨rfl, f9⟩; replace S := S.fr f9; clear f9)
        | ((with_reducible refine gate_box rfl ?_); refine aBx S ?_; clear S; intro g9 w9 z9 S) | ((with_reducible refine gate_alloc rfl ?_); refine aAl S ?_; clear S; intro g9 w9 z9 S) | ((with_reducible refine gate_load rfl ?_); first | refine aLd S ?_ | refine aPt S ?_ | refine aL1 S ?_) | ((with_reducible refine gate_st rfl ?_); (first | refine aS1 S ?_ | refine aSt S ?_ | refine aSp S ?_); clear S; intro w9 S))
      refine bodyPost_ret (results_tmp2 rfl _ _ _) rfl ?_
      exact ⟨ret_ii H.out.symm T.out.symm, S.frame⟩
end Go.Proofs.Ytapdcgjccckjeaa
namespace Go.Proofs.Ytapdcgjccckjeaa
set_option maxRecDepth 100000
set_option linter.unusedVariables false
set_option linter.unusedSimpArgs false
open Go.RowKit
set_option maxHeartbeats 12800000 in
theorem markChainS_c (w : World) (v : Value) (xs : List Ch) (F : List Nat) (q : Int) (h1 : tCh.orow 33 w v xs F) (hn : F.Nodup) (hq0 : 0 ≤ q) (hq1 : q ≤ 100000000000) (hc : cntMChS xs ≤ 1000000000) :
    Calls Try.prog 82 #[v, .int .i64 q] w (RetMkRow tCh 33 (q + cntMChS xs) (marksC q xs) v F w) := by
  obtain ⟨A1, c1, rfl⟩ := h1.row.val
  have hm := h1.le
  have S := Sep.startRow h1 hn
  go_enter Try.func82, Try.ntmps82
  go_wp2
  go_loopw [1, 5] (fun q' i wr => ∃ k : Nat, k ≤ xs.length ∧ i = .int .i64 k ∧ q' = .int .i64 (q + cntMChS (xs.take k)) ∧ Sep F w [aRow tCh 33 (marksC q (xs.take k) ++ xs.drop k) (.slice A1 xs.length c1) F] wr) (fun _ i _ => xs.length - (intOf i).toNat)
  case atStart => exact ⟨0, Nat.zero_le _, rfl, by simp [cntMChS], by simpa [marksC] using S⟩
  case round =>
    clear S h1
    obtain ⟨k, hk, rfl, rfl, S⟩ := hrel
    by_cases hlt : k < xs.length
    · obtain ⟨x, hx⟩ : ∃ x, xs[k] = x := ⟨_, rfl⟩
      have hd : xs.drop k = x :: xs.drop (k + 1) := by rw [← hx]; exact List.drop_eq_getElem_cons hlt
      rw [hd] at S
      obtain ⟨gg, cap', e'⟩ := (S.row (d := tCh) (F := F) (xs := marksC q (xs.take k) ++ x :: xs.drop (k + 1)) memA).shape (by rw [List.length_append, List.length_cons]; omega)
      simp only [Value.slice.injEq] at e'
      obtain ⟨rfl, hlx, rfl⟩ := e'
      clear hlx
      have hA := Lib.hid (show (marksC q (xs.take k)).length = k by rw [marksC_len]; simp; omega)
      have MT := Lib.hid (cntMChS_take xs k hlt)
      have ML := Lib.hid (cntMChS_le xs k)
      have TK := Lib.hid (marksC_take q xs k hlt)
      have XL := cntMChS_get xs k hlt
      rw [hx] at XL
      unfold cntMC1 at XL
      have HX := Lib.hid hx
      obtain ⟨qk, hqk⟩ : ∃ qk, q + (cntMChS (xs.take k) : Int) = qk := ⟨_, rfl⟩
      have HQ := Lib.hid hqk
      have q0 : 0 ≤ qk := by omega
      have q1 : qk ≤ 200000000000 := by have := ML.out; omega
      have l1 : x.bank.own.length ≤ 1000000000 := by omega
      have l2 : x.bank.notes.length ≤ 1000000000 := by omega
      have l3 : x.st.sent.length ≤ 1000000000 := by omega
      have l4 : x.st.live.length ≤ 1000000000 := by omega
      have l5 : x.st.back.length ≤ 1000000000 := by omega
      have l6 : x.st.got.length ≤ 1000000000 := by omega
      have l7 : cntMStS x.past ≤ 1000000000 := by omega
      have l8 : x.knows.length ≤ 1000000000 := by omega
      rw [hqk]
      clear hx hd hqk XL hc
      have p1 : (k : Int) < (xs.length : Int) := by omega
      replace S : Sep F w [aRow tCh 33 (marksC q (xs.take k) ++ (⟨x.id, ⟨x.bank.own, x.bank.notes, x.bank.locked⟩, ⟨x.st.way, x.st.vsn, x.st.want, x.st.sent, x.st.live, x.st.back, x.st.got⟩, x.past, x.knows⟩ : Ch) :: xs.drop (k + 1)) (.slice (some ⟨gg, 0, none⟩) xs.length c1) F] wr := S
      go_wp2_with (first
        | ((with_reducible refine gate_store (p := 16) rfl ?_); refine wpList_sfield (d := tCh) (k := k) (j := 0) (x0 := (⟨x.id, ⟨x.bank.own, x.bank.notes, x.bank.locked⟩, ⟨x.st.way, x.st.vsn, x.st.want, x.st.sent, x.st.live, x.st.back, x.st.got⟩, x.past, x.knows⟩ : Ch)) (x1 := (⟨qk, ⟨x.bank.own, x.bank.notes, x.bank.locked⟩, ⟨x.st.way, x.st.vsn, x.st.want, x.st.sent, x.st.live, x.st.back, x.st.got⟩, x.past, x.knows⟩ : Ch)) S (by rfl) 3 _ _ rfl rfl (.int .i64 _) rfl rfl ts3 memA hA.out (by first | rfl | simp [tCh]) (by decide) (ch_set (fun _ _ _ _ _ _ _ _ => rfl) ⟨rfl, rfl⟩ ⟨rfl, rfl, rfl, rfl⟩ ⟨rfl, rfl⟩ (fun h => by unfold I64 at h ⊢; simp only at h ⊢; omega)) putA ?_; clear S; intro w9 S; obtain ⟨A1, m1, A2, m2, B1, n1, B2, n2, B3, n3, B4, n4, P1, k1, K1, j1, Y1, Y2, Z1, Z2, Z3, Z4, M9, K9, F1, F3, hF, i1, i2, i3, S⟩ := S.lendCh; have HF := Lib.hid hF; have I1 := Lib.hid i1; have I2 := Lib.hid i2; have I3 := Lib.hid i3; clear hF i1 i2 i3)
        | ((with_reducible refine gate_dst (N := 24) rfl ?_); refine aRc ((S.restAt memA hA.out).at_ 1 rfl) ?_)
        | ((with_reducible refine gate_dst (N := 32) rfl ?_); refine aRc ((S.restAt memA hA.out).at_ 2 rfl) ?_)
        | (go_at_call 75; (with_reducible refine (markIntS_c _ (.slice A1 x.bank.own.length m1) x.bank.own Y1 _ (S.row memA) (by omega) (by omega)).mono ?_); rintro e w9 ⟨rfl, h9, c9⟩; replace S := S.putRow putA h9 c9; clear h9 c9)
        | (go_at_call 75; (with_reducible refine (markIntS_c _ (.slice A2 x.bank.notes.length m2) x.bank.notes Y2 _ (S.row memA) (by omega) (by omega)).mono ?_); rintro e w9 ⟨rfl, h9, c9⟩; replace S := S.putRow putA h9 c9; clear h9 c9)
        | ((with_reducible refine gate_store (p := 40) rfl ?_); replace S := S.backCh I1.out I2.out I3.out; rw [← HF.out] at S; refine wpList_sfield (d := tCh) (k := k) (j := 3) (x0 := (⟨qk, ⟨marksI (qk + 1) x.bank.own.length, marksI (qk + 1 + x.bank.own.length) x.bank.notes.length, x.bank.locked⟩, ⟨x.st.way, x.st.vsn, x.st.want, x.st.sent, x.st.live, x.st.back, x.st.got⟩, x.past, x.knows⟩ : Ch)) (x1 := (⟨qk, ⟨marksI (qk + 1) x.bank.own.length, marksI (qk + 1 + x.bank.own.length) x.bank.notes.length, qk + 1 + x.bank.own.length + x.bank.notes.length⟩, ⟨x.st.way, x.st.vsn, x.st.want, x.st.sent, x.st.live, x.st.back, x.st.got⟩, x.past, x.knows⟩ : Ch)) S (by rfl) 3 _ _ rfl rfl (.int .i64 _) rfl rfl ts3 memA hA.out (by first | rfl | simp [tCh]) (by decide) (ch_set (fun _ _ _ _ _ _ _ _ => rfl) ⟨rfl, rfl⟩ ⟨rfl, rfl, rfl, rfl⟩ ⟨rfl, rfl⟩ (fun h => by unfold I64 at h ⊢; simp only at h ⊢; omega)) putA ?_; clear S; intro w9 S)
        | ((with_reducible refine gate_store (p := 48) rfl ?_); refine wpList_sfield (d := tCh) (k := k) (j := 4) (x0 := (⟨qk, ⟨marksI (qk + 1) x.bank.own.length, marksI (qk + 1 + x.bank.own.length) x.bank.notes.length, qk + 1 + x.bank.own.length + x.bank.notes.length⟩, ⟨x.st.way, x.st.vsn, x.st.want, x.st.sent, x.st.live, x.st.back, x.st.got⟩, x.past, x.knows⟩ : Ch)) (x1 := (⟨qk, ⟨marksI (qk + 1) x.bank.own.length, marksI (qk + 1 + x.bank.own.length) x.bank.notes.length, qk + 1 + x.bank.own.length + x.bank.notes.length⟩, ⟨qk + 1 + x.bank.own.length + x.bank.notes.length + 1, x.st.vsn, x.st.want, x.st.sent, x.st.live, x.st.back, x.st.got⟩, x.past, x.knows⟩ : Ch)) S (by rfl) 3 _ _ rfl rfl (.int .i64 _) rfl rfl ts3 memA hA.out (by first | rfl | simp [tCh]) (by decide) (ch_set (fun _ _ _ _ _ _ _ _ => rfl) ⟨rfl, rfl⟩ ⟨rfl, rfl, rfl, rfl⟩ ⟨rfl, rfl⟩ (fun h => by unfold I64 at h ⊢; simp only at h ⊢; omega)) putA ?_; clear S; intro w9 S)
        | ((with_reducible refine gate_store (p := 56) rfl ?_); refine wpList_sfield (d := tCh) (k := k) (j := 5) (x0 := (⟨qk, ⟨marksI (qk + 1) x.bank.own.length, marksI (qk + 1 + x.bank.own.length) x.bank.notes.length, qk + 1 + x.bank.own.length + x.bank.notes.length⟩, ⟨qk + 1 + x.bank.own.length + x.bank.notes.length + 1, x.st.vsn, x.st.want, x.st.sent, x.st.live, x.st.back, x.st.got⟩, x.past, x.knows⟩ : Ch)) (x1 := (⟨qk, ⟨marksI (qk + 1) x.bank.own.length, marksI (qk + 1 + x.bank.own.length) x.bank.notes.length, qk + 1 + x.bank.own.length + x.bank.notes.length⟩, ⟨qk + 1 + x.bank.own.length + x.bank.notes.length + 1, qk + 1 + x.bank.own.length + x.bank.notes.length + 1 + 1, x.st.want, x.st.sent, x.st.live, x.st.back, x.st.got⟩, x.past, x.knows⟩ : Ch)) S (by rfl) 3 _ _ rfl rfl (.int .i64 _) rfl rfl ts3 memA hA.out (by first | rfl | simp [tCh]) (by decide) (ch_set (fun _ _ _ _ _ _ _ _ => rfl) ⟨rfl, rfl⟩ ⟨rfl, rfl, rfl, rfl⟩ ⟨rfl, rfl⟩ (fun h => by unfold I64 at h ⊢; simp only at h ⊢; omega)) putA ?_; clear S; intro w9 S)
        | ((with_reducible refine gate_store (p := 64) rfl ?_); refine wpList_sfield (d := tCh) (k := k) (j := 6) (x0 := (⟨qk, ⟨marksI (qk + 1) x.bank.own.length, marksI (qk + 1 + x.bank.own.length) x.bank.notes.length, qk + 1 + x.bank.own.length + x.bank.notes.length⟩, ⟨qk + 1 + x.bank.own.length + x.bank.notes.length + 1, qk + 1 + x.bank.own.length + x.bank.notes.length + 1 + 1, x.st.want, x.st.sent, x.st.live, x.st.back, x.st.got⟩, x.past, x.knows⟩ : Ch)) (x1 := (⟨qk, ⟨marksI (qk + 1) x.bank.own.length, marksI (qk + 1 + x.bank.own.length) x.bank.notes.length, qk + 1 + x.bank.own.length + x.bank.notes.length⟩, ⟨qk + 1 + x.bank.own.length + x.bank.notes.length + 1, qk + 1 + x.bank.own.length + x.bank.notes.length + 1 + 1, qk + 1 + x.bank.own.length + x.bank.notes.length + 1 + 1 + 1, x.st.sent, x.st.live, x.st.back, x.st.got⟩, x.past, x.knows⟩ : Ch)) S (by rfl) 3 _ _ rfl rfl (.int .i64 _) rfl rfl ts3 memA hA.out (by first | rfl | simp [tCh]) (by decide) (ch_set (fun _ _ _ _ _ _ _ _ => rfl) ⟨rfl, rfl⟩ ⟨rfl, rfl, rfl, rfl⟩ ⟨rfl, rfl⟩ (fun h => by unfold I64 at h ⊢; simp only at h ⊢; omega)) putA ?_; clear S; intro w9 S; obtain ⟨A1, m1, A2, m2, B1, n1, B2, n2, B3, n3, B4, n4, P1, k1, K1, j1, Y1, Y2, Z1, Z2, Z3, Z4, M9, K9, F1, F3, hF, i1, i2, i3, S⟩ := S.lendCh; have HF2 := Lib.hid hF; have I1 := Lib.hid i1; have I2 := Lib.hid i2; have I3 := Lib.hid i3; clear hF i1 i2 i3)
        | ((with_reducible refine gate_dst (N := 72) rfl ?_); refine aRc ((S.restAt memA hA.out).at_ 7 rfl) ?_)
        | ((with_reducible refine gate_dst (N := 80) rfl ?_); refine aRc ((S.restAt memA hA.out).at_ 8 rfl) ?_)
        | ((with_reducible refine gate_dst (N := 88) rfl ?_); refine aRc ((S.restAt memA hA.out).at_ 9 rfl) ?_)
        | ((with_reducible refine gate_dst (N := 96) rfl ?_); refine aRc ((S.restAt memA hA.out).at_ 10 rfl) ?_)
        | ((with_reducible refine gate_dst (N := 103) rfl ?_); refine aRc ((S.restAt memA hA.out).at_ 11 rfl) ?_)
        | ((with_reducible refine gate_dst (N := 110) rfl ?_); refine aRc ((S.restAt memA hA.out).at_ 12 rfl) ?_)
        | (go_at_call 98; (with_reducible refine (markPacketS_c _ (.slice B1 x.st.sent.length n1) x.st.sent Z1 _ (S.row memA) (by omega) (by omega)).mono ?_); rintro e w9 ⟨rfl, h9, c9⟩; replace S := S.putRow putA h9 c9; clear h9 c9)
        | (go_at_call 99; (with_reducible refine (markBoolS_c _ (.slice B2 x.st.live.length n2) x.st.live Z2 _ (S.row memA) (by omega) (by omega)).mono ?_); rintro e w9 ⟨rfl, h9, c9⟩; replace S := S.putRow putA h9 c9; clear h9 c9)
        | (go_at_call 99; (with_reducible refine (markBoolS_c _ (.slice B3 x.st.back.length n3) x.st.back Z3 _ (S.row memA) (by omega) (by omega)).mono ?_); rintro e w9 ⟨rfl, h9, c9⟩; replace S := S.putRow putA h9 c9; clear h9 c9)
        | (go_at_call 75; (with_reducible refine (markIntS_c _ (.slice B4 x.st.got.length n4) x.st.got Z4 _ (S.row memA) (by omega) (by omega)).mono ?_); rintro e w9 ⟨rfl, h9, c9⟩; replace S := S.putRow putA h9 c9; clear h9 c9)
        | (go_at_call 74; (with_reducible refine (markStateS_c _ (.slice P1 x.past.length k1) x.past M9 _ (S.row memA) (S.rowNd memA) (by omega) (by omega) l7).mono ?_); rintro e w9 ⟨rfl, h9, c9⟩; replace S := S.putRow putA h9 c9; clear h9 c9)
        | (go_at_call 75; (with_reducible refine (markIntS_c _ (.slice K1 x.knows.length j1) x.knows K9 _ (S.row memA) (by omega) (by omega)).mono ?_); rintro e w9 ⟨rfl, h9, c9⟩; replace S := S.putRow putA h9 c9; clear h9 c9))
      replace S := S.backCh I1.out I2.out I3.out
      rw [← HF2.out] at S
      go_roundw
      case rel => exact ⟨k + 1, by omega, by go_num, by rw [MT.out, HX.out, ← HQ.out]; congr 1; unfold cntMC1; omega, by rw [TK.out, HX.out, HQ.out, List.append_assoc]; exact S⟩
      case measure => simp [intOf]; omega
    · obtain rfl : k = xs.length := by omega
      rw [List.drop_length, List.append_nil, List.take_length] at S
      rw [List.take_length]
      go_wp2
      go_ret
      exact ⟨rfl, S.row memA, S.chg⟩
set_option maxHeartbeats 12800000 in
theorem heldChainS_c (w : World) (v : Value) (xs : List Ch) (q : Int) (h1 : tCh.row w v (marksC q xs)) (hb : ∀ k (h : k < xs.length), SmallCh xs[k]) (hq0 : 0 ≤ q) (hq1 : q ≤ 100000000000) (hc : cntMChS xs ≤ 1000000000) :
    Calls Try.prog 83 #[v, .int .i64 q] w (Ret (.int .i64 (q + cntMChS xs)) w) := by
  obtain ⟨A1, c1, rfl⟩ := h1.val
  have hm := h1.le
  rw [marksC_len] at hm
  rw [marksC_len] at h1 ⊢
  have H1 := Lib.hid h1
  clear h1
  have S := Sep.start w
  go_enter Try.func83, Try.ntmps83
  go_wp2
  go_loopw [1, 5] (fun q' i wr => ∃ k : Nat, k ≤ xs.length ∧ i = .int .i64 k ∧ q' = .int .i64 (q + cntMChS (xs.take k)) ∧ Sep [] w [] wr) (fun _ i _ => xs.length - (intOf i).toNat)
  case atStart => exact ⟨0, Nat.zero_le _, rfl, by simp [cntMChS], S⟩
  case round =>
    clear S
    obtain ⟨k, hk, rfl, rfl, S⟩ := hrel
    by_cases hlt : k < xs.length
    · obtain ⟨ad1, cs1, rfl, r1, g1⟩ := cellsAt_of_row H1.out k (by rw [marksC_len]; exact hlt)
      rw [marksC_get q xs k hlt] at r1
      have bx := hb k hlt
      have MT := Lib.hid (cntMChS_take xs k hlt)
      have ML := Lib.hid (cntMChS_le xs k)
      have XL := cntMChS_get xs k hlt
      obtain ⟨x, hx⟩ : ∃ x, xs[k] = x := ⟨_, rfl⟩
      rw [hx] at r1 bx XL
      unfold cntMC1 at XL
      obtain ⟨⟨b1, b2⟩, b3, b4, b5, b6⟩ := bx
      obtain ⟨b7, b8, b9, b10⟩ := b3
      have B4 := Lib.hid b4
      have B5 := Lib.hid b5
      have HX := Lib.hid hx
      obtain ⟨qk, hqk⟩ : ∃ qk, q + (cntMChS (xs.take k) : Int) = qk := ⟨_, rfl⟩
      have HQ := Lib.hid hqk
      have q0 : 0 ≤ qk := by omega
      have q1 : qk ≤ 200000000000 := by have := ML.out; omega
      have l7 : cntMStS x.past ≤ 1000000000 := by omega
      rw [hqk]
      rw [hqk] at r1
      unfold markC1 at r1
      clear hx hqk hb b4 b5 XL hc
      obtain ⟨u1, u2, s1, s2, s3, s4, y1, y2, rfl, hbk, hst, hpa, hkn, _⟩ := r1
      obtain ⟨z1, z2, ez, h11, h12, _⟩ := hbk
      simp only [List.cons.injEq, and_true] at ez
      obtain ⟨rfl, rfl⟩ := ez
      obtain ⟨h13, h14, h15, h16, _⟩ := tSt_rows hst
      have G1 := Lib.hid (fun (W : World) (f : Fr w W) => g1.fr f)
      clear g1 hst
      have p0 : (0 : Int) ≤ (k : Int) := Int.natCast_nonneg _
      have p1 : (k : Int) < (xs.length : Int) := by omega
      have w1 : IntKind.i64.wrap (qk + 1) = qk + 1 := IntWalk.i64_in _ (by omega)
      have w2 : IntKind.i64.wrap (qk + 1 + x.bank.own.length + x.bank.notes.length + 1) = qk + 1 + x.bank.own.length + x.bank.notes.length + 1 := IntWalk.i64_in _ (by omega)
      have w3 : IntKind.i64.wrap (qk + 1 + x.bank.own.length + x.bank.notes.length + 1 + 1) = qk + 1 + x.bank.own.length + x.bank.notes.length + 1 + 1 := IntWalk.i64_in _ (by omega)
      have w4 : IntKind.i64.wrap (qk + 1 + x.bank.own.length + x.bank.notes.length + 1 + 1 + 1) = qk + 1 + x.bank.own.length + x.bank.notes.length + 1 + 1 + 1 := IntWalk.i64_in _ (by omega)
      have w5 : IntKind.i64.wrap (qk + 1 + x.bank.own.length + x.bank.notes.length + 1 + 1 + 1 + 1) = qk + 1 + x.bank.own.length + x.bank.notes.length + 1 + 1 + 1 + 1 := IntWalk.i64_in _ (by omega)
      go_wp2_with (first
        | ((with_reducible refine gate_dst (N := 16) rfl ?_); refine aRc ((G1.out _ S.frame).at_ 0 rfl) ?_)
        | ((with_reducible refine gate_dst (N := 26) rfl ?_); refine aRc ((G1.out _ S.frame).at_ 1 rfl) ?_)
        | ((with_reducible refine gate_dst (N := 36) rfl ?_); refine aRc ((G1.out _ S.frame).at_ 2 rfl) ?_)
        | ((with_reducible refine gate_dst (N := 46) rfl ?_); refine aRc ((G1.out _ S.frame).at_ 3 rfl) ?_)
        | ((with_reducible refine gate_dst (N := 56) rfl ?_); refine aRc ((G1.out _ S.frame).at_ 4 rfl) ?_)
        | ((with_reducible refine gate_dst (N := 66) rfl ?_); refine aRc ((G1.out _ S.frame).at_ 5 rfl) ?_)
        | ((with_reducible refine gate_dst (N := 76) rfl ?_); refine aRc ((G1.out _ S.frame).at_ 6 rfl) ?_)
        | ((with_reducible refine gate_dst (N := 86) rfl ?_); refine aRc ((G1.out _ S.frame).at_ 7 rfl) ?_)
        | ((with_reducible refine gate_dst (N := 96) rfl ?_); refine aRc ((G1.out _ S.frame).at_ 8 rfl) ?_)
        | ((with_reducible refine gate_dst (N := 106) rfl ?_); refine aRc ((G1.out _ S.frame).at_ 9 rfl) ?_)
        | ((with_reducible refine gate_dst (N := 116) rfl ?_); refine aRc ((G1.out _ S.frame).at_ 10 rfl) ?_)
        | ((with_reducible refine gate_dst (N := 125) rfl ?_); refine aRc ((G1.out _ S.frame).at_ 11 rfl) ?_)
        | ((with_reducible refine gate_dst (N := 134) rfl ?_); refine aRc ((G1.out _ S.frame).at_ 12 rfl) ?_)
        | (go_at_call 78; (with_reducible refine (heldIntS_c _ _ x.bank.own.length _ (h11.fr S.frame) b1 (by omega) (by omega)).mono ?_); rintro e w9 ⟨rfl, f9⟩; replace S := S.fr f9; clear f9)
        | (go_at_call 78; (with_reducible refine (heldIntS_c _ _ x.bank.notes.length _ (h12.fr S.frame) b2 (by omega) (by omega)).mono ?_); rintro e w9 ⟨rfl, f9⟩; replace S := S.fr f9; clear f9)
        | (go_at_call 100; (with_reducible refine (heldPacketS_c _ _ x.st.sent.length _ (h13.fr S.frame) b7 (by omega) (by omega)).mono ?_); rintro e w9 ⟨rfl, f9⟩; replace S := S.fr f9; clear f9)
        | (go_at_call 101; (with_reducible refine (heldBoolS_c _ _ x.st.live.length _ (h14.fr S.frame) b8 (by omega) (by omega)).mono ?_); rintro e w9 ⟨rfl, f9⟩; replace S := S.fr f9; clear f9)
        | (go_at_call 101; (with_reducible refine (heldBoolS_c _ _ x.st.back.length _ (h15.fr S.frame) b9 (by omega) (by omega)).mono ?_); rintro e w9 ⟨rfl, f9⟩; replace S := S.fr f9; clear f9)
        | (go_at_call 78; (with_reducible refine (heldIntS_c _ _ x.st.got.length _ (h16.fr S.frame) b10 (by omega) (by omega)).mono ?_); rintro e w9 ⟨rfl, f9⟩; replace S := S.fr f9; clear f9)
        | (go_at_call 78; (with_reducible refine (heldIntS_c _ _ x.knows.length _ (hkn.fr S.frame) b6 (by omega) (by omega)).mono ?_); rintro e w9 ⟨rfl, f9⟩; replace S := S.fr f9; clear f9)
        | (go_at_call 77; (with_reducible refine (heldStateS_c _ _ x.past _ (hpa.fr S.frame) B4.out (by omega) (by omega) l7).mono ?_); rintro e w9 ⟨rfl, f9⟩; replace S := S.fr f9; clear f9))
      go_roundw
      case rel => exact ⟨k + 1, by omega, by go_num, by rw [MT.out, HX.out, ← HQ.out]; congr 1; unfold cntMC1; omega, S⟩
      case measure => simp [intOf]; omega
    · obtain rfl : k = xs.length := by omega
      rw [List.take_length]
      go_wp2
      go_ret
      exact ⟨rfl, S.frame⟩
end Go.Proofs.Ytapdcgjccckjeaa
namespace Go.Proofs.Ytapdcgjccckjeaa
set_option maxRecDepth 100000
set_option linter.unusedVariables false
set_option linter.unusedSimpArgs false
open Go.RowKit
/-- Marks, the last height first. -/
def mks (w : World) : Value → List St → List Nat → Prop
  | p, [], F => p = .pointer none ∧ F = []
  | p, s :: ss, F => ∃ g v1 v2 v3 v4 p' F1 F2, p = .pointer (some ⟨g, 0, none⟩) ∧ F = g :: (F1 ++ F2) ∧ Box w g 138 #[.int .i64 s.way, .int .i64 s.vsn, .int .i64 s.want, v1, v2, v3, v4, p'] ∧ tSt.own w s [.int .i64 s.way, .int .i64 s.vsn, .int .i64 s.want, v1, v2, v3, v4] F1 ∧ mks w p' ss F2
theorem mks_lt {w : World} : ∀ {ss : List St} {p : Value} {F : List Nat}, mks w p ss F → ∀ g ∈ F, g < w.heap.size
  | [], _, _, h, g, hg => by rw [h.2] at hg; cases hg
  | s :: ss, _, _, h, g, hg => by
    obtain ⟨g0, v1, v2, v3, v4, p', F1, F2, rfl, rfl, h1, h2, h3⟩ := h
    rcases List.mem_cons.1 hg with rfl | hg
    · exact h1.lt
    rcases List.mem_append.1 hg with hg | hg
    · exact tSt.own_lt h2 g hg
    · exact mks_lt h3 g hg
theorem mks_keep {w w' : World} : ∀ {ss : List St} {p : Value} {F : List Nat}, mks w p ss F → (∀ g ∈ F, w'.heap[g]? = w.heap[g]?) → mks w' p ss F
  | [], _, _, h, _ => h
  | s :: ss, _, _, h, hk => by
    obtain ⟨g0, v1, v2, v3, v4, p', F1, F2, rfl, rfl, h1, h2, h3⟩ := h
    exact ⟨g0, v1, v2, v3, v4, p', F1, F2, rfl, rfl, ⟨(hk g0 (by simp)).trans h1.blk⟩, tSt.keep h2 (fun g hg => hk g (by simp [hg])), mks_keep h3 (fun g hg => hk g (by simp [hg]))⟩
def aMks (p : Value) (ss : List St) (F : List Nat) : Asrt where
  fp := F
  ok := fun w => mks w p ss F
  lt := fun h => mks_lt h
  keep := fun h hk => mks_keep h hk
theorem mks_one {w : World} {p : Value} {ss : List St} {F : List Nat} (h : mks w p ss F) : p.oneCell' = true := by
  cases ss with
  | nil => rw [h.1]; rfl
  | cons s ss =>
    obtain ⟨g0, v1, v2, v3, v4, p', F1, F2, rfl, _⟩ := h
    rfl
/-- Is it a pointer. -/
theorem mks_ptr {w : World} {p : Value} {ss : List St} {F : List Nat} (h : mks w p ss F) : ∃ a, p = .pointer a := by
  cases ss with
  | nil => exact ⟨_, h.1⟩
  | cons s ss =>
    obtain ⟨g0, v1, v2, v3, v4, p', F1, F2, rfl, _⟩ := h
    exact ⟨_, rfl⟩
section
variable {F0 : List Nat} {w0 w : World} {L : List Asrt} {p : Value} {F : List Nat}
theorem Sep.mksNil (S : Sep F0 w0 (aMks p [] F :: L) w) : p = .pointer none ∧ Sep F0 w0 L w := ⟨(S.ok (aMks p [] F) (by simp)).1, S.drop⟩
theorem Sep.mksNew (S : Sep F0 w0 L w) : Sep F0 w0 (aMks (.pointer none) [] [] :: L) w := S.new (aMks (.pointer none) [] []) ⟨rfl, rfl⟩ (by simp [aMks]) (fun q hq => by cases hq) (Fr.refl _)
theorem Sep.mksUncons {s : St} {ss : List St} (S : Sep F0 w0 (aMks p (s :: ss) F :: L) w) : ∃ g v1 v2 v3 v4 a F1 F2, p = .pointer (some ⟨g, 0, none⟩) ∧ F = g :: (F1 ++ F2) ∧
    Sep F0 w0 (aBox g 138 8 [.int .i64 s.way, .int .i64 s.vsn, .int .i64 s.want, v1, v2, v3, v4, .pointer a] :: aOwn tSt s [.int .i64 s.way, .int .i64 s.vsn, .int .i64 s.want, v1, v2, v3, v4] F1 :: aMks (.pointer a) ss F2 :: L) w := by
  have h := S.ok (aMks p (s :: ss) F) (by simp)
  obtain ⟨g0, v1, v2, v3, v4, p', F1, F2, rfl, rfl, h1, h2, h3⟩ := h
  obtain ⟨a, rfl⟩ := mks_ptr h3
  refine ⟨g0, v1, v2, v3, v4, a, F1, F2, rfl, rfl, S.conv [aBox g0 138 8 [.int .i64 s.way, .int .i64 s.vsn, .int .i64 s.want, v1, v2, v3, v4, .pointer a], aOwn tSt s _ F1, aMks (.pointer a) ss F2] (by simp [fps, aBox, aOwn, aMks]) ?_⟩
  intro x hx
  simp only [List.mem_cons, List.not_mem_nil, or_false] at hx
  rcases hx with rfl | rfl | rfl
  · exact ⟨h1, rfl⟩
  · exact h2
  · exact h3
theorem Sep.mksCons {s : St} {ss : List St} {g : Nat} {v1 v2 v3 v4 p' : Value} {F1 F2 : List Nat} (S : Sep F0 w0 (aBox g 138 8 [.int .i64 s.way, .int .i64 s.vsn, .int .i64 s.want, v1, v2, v3, v4, p'] :: aOwn tSt s [.int .i64 s.way, .int .i64 s.vsn, .int .i64 s.want, v1, v2, v3, v4] F1 :: aMks p' ss F2 :: L) w) :
    Sep F0 w0 (aMks (.pointer (some ⟨g, 0, none⟩)) (s :: ss) (g :: (F1 ++ F2)) :: L) w := by
  refine Sep.join [aBox g 138 8 [.int .i64 s.way, .int .i64 s.vsn, .int .i64 s.want, v1, v2, v3, v4, p'], aOwn tSt s _ F1, aMks p' ss F2] S _ (by simp [fps, aBox, aOwn, aMks]) fun h => ?_
  exact ⟨g, v1, v2, v3, v4, p', F1, F2, rfl, rfl, (h (aBox g 138 8 [.int .i64 s.way, .int .i64 s.vsn, .int .i64 s.want, v1, v2, v3, v4, p']) (by simp)).1, h (aOwn tSt s _ F1) (by simp), h (aMks p' ss F2) (by simp)⟩
end
/-- A chain that is being worked on, at block g. -/
def aLnk (g : Nat) (c : Ch) (F : List Nat) : Asrt where
  fp := F
  ok := fun w => ∃ x1 x2 v1 v2 v3 v4 p u2 Fb Fs Fm Fk, F = g :: (Fb ++ (Fs ++ (Fm ++ Fk))) ∧ Box w g 136 #[x1, x2, .int .i64 c.bank.locked, .int .i64 c.id, .int .i64 c.st.way, .int .i64 c.st.vsn, .int .i64 c.st.want, v1, v2, v3, v4, p, .int .i64 (c.past.length : Int), u2] ∧
    tBk.own w c.bank [x1, x2, .int .i64 c.bank.locked] Fb ∧ tSt.own w c.st [.int .i64 c.st.way, .int .i64 c.st.vsn, .int .i64 c.st.want, v1, v2, v3, v4] Fs ∧ mks w p c.past.reverse Fm ∧ tInt.orow 3 w u2 c.knows Fk ∧ I64 c.id
  lt := by
    rintro w ⟨x1, x2, v1, v2, v3, v4, p, u2, Fb, Fs, Fm, Fk, rfl, h1, h2, h3, h4, h5, _⟩ g hg
    rcases List.mem_cons.1 hg with rfl | hg
    · exact h1.lt
    rcases List.mem_append.1 hg with hg | hg
    · exact tBk.own_lt h2 g hg
    rcases List.mem_append.1 hg with hg | hg
    · exact tSt.own_lt h3 g hg
    rcases List.mem_append.1 hg with hg | hg
    · exact mks_lt h4 g hg
    · exact h5.lt g hg
  keep := by
    rintro w w' ⟨x1, x2, v1, v2, v3, v4, p, u2, Fb, Fs, Fm, Fk, rfl, h1, h2, h3, h4, h5, h6⟩ hk
    exact ⟨x1, x2, v1, v2, v3, v4, p, u2, Fb, Fs, Fm, Fk, rfl, ⟨(hk g (by simp)).trans h1.blk⟩, tBk.keep h2 (fun q hq => hk q (by simp [hq])), tSt.keep h3 (fun q hq => hk q (by simp [hq])), mks_keep h4 (fun q hq => hk q (by simp [hq])), h5.keep (fun q hq => hk q (by simp [hq])), h6⟩
section
variable {F0 : List Nat} {w0 w : World} {L : List Asrt} {g : Nat} {c : Ch} {F : List Nat}
theorem Sep.openLnk (S : Sep F0 w0 (aLnk g c F :: L) w) : ∃ A1 m1 A2 m2 B1 n1 B2 n2 B3 n3 B4 n4 p A5 m5 Y1 Y2 Z1 Z2 Z3 Z4 M1 K1, I64 c.bank.locked ∧ (I64 c.st.way ∧ I64 c.st.vsn ∧ I64 c.st.want) ∧ I64 c.id ∧
    Sep F0 w0 (aBox g 136 14 [.slice A1 c.bank.own.length m1, .slice A2 c.bank.notes.length m2, .int .i64 c.bank.locked, .int .i64 c.id, .int .i64 c.st.way, .int .i64 c.st.vsn, .int .i64 c.st.want, .slice B1 c.st.sent.length n1, .slice B2 c.st.live.length n2, .slice B3 c.st.back.length n3, .slice B4 c.st.got.length n4, .pointer p, .int .i64 (c.past.length : Int), .slice A5 c.knows.length m5] ::
      aRow tInt 3 c.bank.own (.slice A1 c.bank.own.length m1) Y1 :: aRow tInt 3 c.bank.notes (.slice A2 c.bank.notes.length m2) Y2 :: aRow tPk 88 c.st.sent (.slice B1 c.st.sent.length n1) Z1 :: aRow tBool 4 c.st.live (.slice B2 c.st.live.length n2) Z2 :: aRow tBool 4 c.st.back (.slice B3 c.st.back.length n3) Z3 :: aRow tInt 3 c.st.got (.slice B4 c.st.got.length n4) Z4 :: aMks (.pointer p) c.past.reverse M1 :: aRow tInt 3 c.knows (.slice A5 c.knows.length m5) K1 :: L) w := by
  have h := S.ok (aLnk g c F) (by simp)
  obtain ⟨x1, x2, v1, v2, v3, v4, p, u2, Fb, Fs, Fm, Fk, hF, h1, h2, h3, h4, h5, h6⟩ := h
  obtain ⟨d1, d2, Y1, Y2, e1, rfl, r1, r2, r3⟩ := h2
  simp only [List.cons.injEq, and_true] at e1
  obtain ⟨rfl, rfl⟩ := e1
  obtain ⟨t1, t2, t3, t4, Z1, Z2, Z3, Z4, e2, rfl, s1, s2, s3, s4, s5⟩ := h3
  simp only [List.cons.injEq, and_true, true_and] at e2
  obtain ⟨rfl, rfl, rfl, rfl⟩ := e2
  obtain ⟨A1, m1, rfl⟩ := r1.row.val
  obtain ⟨A2, m2, rfl⟩ := r2.row.val
  obtain ⟨B1, n1, rfl⟩ := s1.row.val
  obtain ⟨B2, n2, rfl⟩ := s2.row.val
  obtain ⟨B3, n3, rfl⟩ := s3.row.val
  obtain ⟨B4, n4, rfl⟩ := s4.row.val
  obtain ⟨A5, m5, rfl⟩ := h5.row.val
  obtain ⟨a, rfl⟩ := mks_ptr h4
  refine ⟨A1, m1, A2, m2, B1, n1, B2, n2, B3, n3, B4, n4, a, A5, m5, Y1, Y2, Z1, Z2, Z3, Z4, Fm, Fk, r3, s5, h6, S.conv [aBox g 136 14 _, aRow tInt 3 c.bank.own _ Y1, aRow tInt 3 c.bank.notes _ Y2, aRow tPk 88 c.st.sent _ Z1, aRow tBool 4 c.st.live _ Z2, aRow tBool 4 c.st.back _ Z3, aRow tInt 3 c.st.got _ Z4, aMks _ c.past.reverse Fm, aRow tInt 3 c.knows _ Fk] (by simp [fps, aBox, aRow, aMks, aLnk, hF]) ?_⟩
  intro x hx
  simp only [List.mem_cons, List.not_mem_nil, or_false] at hx
  rcases hx with rfl | rfl | rfl | rfl | rfl | rfl | rfl | rfl | rfl
  · exact ⟨h1, rfl⟩
  · exact r1
  · exact r2
  · exact s1
  · exact s2
  · exact s3
  · exact s4
  · exact h4
  · exact h5
end
/-- A link put together out of its parts, wherever they stand. -/
theorem Sep.allLnk {F0 : List Nat} {w0 w : World} {L L1 L2 L3 L4 L5 L6 L7 L8 L9 : List Asrt} {x1 x2 v1 v2 v3 v4 p u2 : Value} {Y1 Y2 Z1 Z2 Z3 Z4 M1 K1 : List Nat} {g : Nat} {nn : Int} {ms : List St} (c : Ch) (S : Sep F0 w0 L w) (I9 : I64 c.bank.locked) (J9 : I64 c.st.way ∧ I64 c.st.vsn ∧ I64 c.st.want) (h15 : I64 c.id) (p1 : Del L (aRow tInt 3 c.knows u2 K1) L1 := by (repeat (first | with_reducible exact Del.head _ _ | with_reducible apply Del.tail)) <;> fail) (p2 : Del L1 (aMks p ms M1) L2 := by (repeat (first | with_reducible exact Del.head _ _ | with_reducible apply Del.tail)) <;> fail) (p3 : Del L2 (aRow tInt 3 c.st.got v4 Z4) L3 := by (repeat (first | with_reducible exact Del.head _ _ | with_reducible apply Del.tail)) <;> fail) (p4 : Del L3 (aRow tBool 4 c.st.back v3 Z3) L4 := by (repeat (first | with_reducible exact Del.head _ _ | with_reducible apply Del.tail)) <;> fail) (p5 : Del L4 (aRow tBool 4 c.st.live v2 Z2) L5 := by (repeat (first | with_reducible exact Del.head _ _ | with_reducible apply Del.tail)) <;> fail) (p6 : Del L5 (aRow tPk 88 c.st.sent v1 Z1) L6 := by (repeat (first | with_reducible exact Del.head _ _ | with_reducible apply Del.tail)) <;> fail) (p7 : Del L6 (aRow tInt 3 c.bank.notes x2 Y2) L7 := by (repeat (first | with_reducible exact Del.head _ _ | with_reducible apply Del.tail)) <;> fail) (p8 : Del L7 (aRow tInt 3 c.bank.own x1 Y1) L8 := by (repeat (first | with_reducible exact Del.head _ _ | with_reducible apply Del.tail)) <;> fail) (p9 : Del L8 (aBox g 136 14 [x1, x2, .int .i64 c.bank.locked, .int .i64 c.id, .int .i64 c.st.way, .int .i64 c.st.vsn, .int .i64 c.st.want, v1, v2, v3, v4, p, .int .i64 nn, u2]) L9 := by (repeat (first | with_reducible exact Del.head _ _ | with_reducible apply Del.tail)) <;> fail) (hnn : nn = (c.past.length : Int) := by first | exact rfl | simp) (hms : ms = c.past.reverse := by first | exact rfl | simp) :
    Sep F0 w0 (aLnk g c (g :: ((Y1 ++ Y2) ++ ((Z1 ++ (Z2 ++ (Z3 ++ Z4))) ++ (M1 ++ K1)))) :: L9) w := by
  subst hnn
  subst hms
  have S1 := ((((((((S.pull p1).pull (.tail _ p2)).pull (.tail _ (.tail _ p3))).pull (.tail _ (.tail _ (.tail _ p4)))).pull (.tail _ (.tail _ (.tail _ (.tail _ p5))))).pull (.tail _ (.tail _ (.tail _ (.tail _ (.tail _ p6)))))).pull (.tail _ (.tail _ (.tail _ (.tail _ (.tail _ (.tail _ p7))))))).pull (.tail _ (.tail _ (.tail _ (.tail _ (.tail _ (.tail _ (.tail _ p8)))))))).pull (.tail _ (.tail _ (.tail _ (.tail _ (.tail _ (.tail _ (.tail _ (.tail _ p9))))))))
  refine Sep.join [aBox g 136 14 [x1, x2, .int .i64 c.bank.locked, .int .i64 c.id, .int .i64 c.st.way, .int .i64 c.st.vsn, .int .i64 c.st.want, v1, v2, v3, v4, p, .int .i64 (c.past.length : Int), u2], aRow tInt 3 c.bank.own x1 Y1, aRow tInt 3 c.bank.notes x2 Y2, aRow tPk 88 c.st.sent v1 Z1, aRow tBool 4 c.st.live v2 Z2, aRow tBool 4 c.st.back v3 Z3, aRow tInt 3 c.st.got v4 Z4, aMks p c.past.reverse M1, aRow tInt 3 c.knows u2 K1] S1 _ (by simp [fps, aBox, aRow, aMks, aLnk]) fun h => ?_
  exact ⟨x1, x2, v1, v2, v3, v4, p, u2, Y1 ++ Y2, Z1 ++ (Z2 ++ (Z3 ++ Z4)), M1, K1, rfl, (h (aBox g 136 14 [x1, x2, .int .i64 c.bank.locked, .int .i64 c.id, .int .i64 c.st.way, .int .i64 c.st.vsn, .int .i64 c.st.want, v1, v2, v3, v4, p, .int .i64 (c.past.length : Int), u2]) (by simp)).1, ⟨x1, x2, Y1, Y2, rfl, rfl, h (aRow tInt 3 c.bank.own x1 Y1) (by simp), h (aRow tInt 3 c.bank.notes x2 Y2) (by simp), I9⟩, ⟨v1, v2, v3, v4, Z1, Z2, Z3, Z4, rfl, rfl, h (aRow tPk 88 c.st.sent v1 Z1) (by simp), h (aRow tBool 4 c.st.live v2 Z2) (by simp), h (aRow tBool 4 c.st.back v3 Z3) (by simp), h (aRow tInt 3 c.st.got v4 Z4) (by simp), J9⟩, h (aMks p c.past.reverse M1) (by simp), h (aRow tInt 3 c.knows u2 K1) (by simp), h15⟩
end Go.Proofs.Ytapdcgjccckjeaa
namespace Go.Proofs.Ytapdcgjccckjeaa
set_option maxRecDepth 100000
set_option linter.unusedVariables false
set_option linter.unusedSimpArgs false
open Go.RowKit

def newBk : Bk := ⟨[10, 10, 10], [0, 0, 0], 0⟩
set_option maxHeartbeats 800000 in
theorem sBankNew_c (w : World) : Calls Try.prog 62 #[] w (RetOwn tBk newBk w) := by
  have f := Fr.refl w
  go_enter Try.func62, Try.ntmps62
  go_wp2_with (first
    | ((with_reducible refine gate_dst (N := 0) rfl ?_); refine wpList_alloc rfl _ rfl _ (zero26 _) #[.slice none 0 0, .slice none 0 0, .int .i64 0] rfl ?_; intro g_k0 w9 hg_k0 k0 f9; have zf_k0 := f.size; have hl_k0 := k0.lt; have z9 := f9.size; replace f := f.trans f9; (try replace ho1 := ho1.fr f9); (try replace ho2 := ho2.fr f9); (try clear r_k0); have r_k0 := k0.cells)
    | ((with_reducible refine gate_dst (N := 1) rfl ?_); refine wpList_newrow tInt 3 [10, 10, 10] 3 rfl rfl (by first | (go_simp; done) | (go_simp; rfl)) (orow_ints_lit _ _ [10, 10, 10] (by simp)) (by simp) (by simp) ((Fr.refl _).alloc _) ?_; intro A1 c1 w9 F1 ho1 hn1 hb1 f9; have hu1 := ho1.lt; have z9 := f9.size; replace f := f.trans f9; (try replace ho1 := ho1.fr f9); (try replace ho2 := ho2.fr f9); (try (replace k0 := k0.fr f9; (try clear r_k0); have r_k0 := k0.cells)))
    | ((with_reducible refine gate_dst (N := 2) rfl ?_); refine wpList_newrow tInt 3 [0, 0, 0] 3 rfl rfl (by first | (go_simp; done) | (go_simp; rfl)) (orow_ints_lit _ _ [0, 0, 0] (by simp)) (by simp) (by simp) ((Fr.refl _).alloc _) ?_; intro A2 c2 w9 F2 ho2 hn2 hb2 f9; have hu2 := ho2.lt; have z9 := f9.size; replace f := f.trans f9; (try replace ho1 := ho1.fr f9); (try replace ho2 := ho2.fr f9); (try (replace k0 := k0.fr f9; (try clear r_k0); have r_k0 := k0.cells)))
    | ((with_reducible refine gate_store (p := 0) rfl ?_); refine wpList_bstore k0 rfl _ _ _ rfl 0 3 rfl (.agg #[.slice A1 3 c1, .slice A2 3 c2, .int .i64 0]) rfl #[.slice A1 3 c1, .slice A2 3 c2, .int .i64 0] rfl rfl size26 (by simp) (by intro u hu; simp at hu; rcases hu with rfl | rfl | rfl; rfl; rfl; rfl) #[.slice A1 3 c1, .slice A2 3 c2, .int .i64 0] rfl ?_; intro w9 k9 c9; have z9 := c9.size; replace f := f.own c9 (fun q hq => by have := List.mem_singleton.1 hq; have := f.size; omega); (try replace ho1 := ho1.chg c9 (fun q hq hm => by have := hb1 q hq; have := hu1 q hq; have := List.mem_singleton.1 hm; omega)); (try replace ho2 := ho2.chg c9 (fun q hq hm => by have := hb2 q hq; have := hu2 q hq; have := List.mem_singleton.1 hm; omega)); replace k0 := k9; clear k9; (try clear r_k0); have r_k0 := k0.cells))
  exact bodyPost_ret (v := .agg #[.slice A1 3 c1, .slice A2 3 c2, .int .i64 0]) (results_cell_row rfl _ _ g_k0 _ _ _ _ rfl k0.blk Try.underlying26 rfl size26) rfl
    ⟨[.slice A1 3 c1, .slice A2 3 c2, .int .i64 0], F1 ++ F2, rfl, ⟨_, _, F1, F2, rfl, rfl, ho1, ho2, by decide, by decide⟩, nodup_lt hn1 hn2 hu1 (by omega) hb2, lo_append (lo_mono hb1 (by omega)) (lo_mono hb2 (Nat.le_refl _)) (by omega), f⟩

theorem rep_step (k : Nat) (h : k < 3) : (List.replicate k (10 : Int) ++ List.replicate (3 - k) (0 : Int)).set k 10 = List.replicate (k + 1) 10 ++ List.replicate (3 - (k + 1)) 0 := by
  rcases (by omega : k = 0 ∨ k = 1 ∨ k = 2) with rfl | rfl | rfl <;> rfl
set_option maxHeartbeats 1600000 in
theorem BankNew_c (w : World) : Calls Try.prog 21 #[] w (RetOwn tBk newBk w) := by
  have f := Fr.refl w
  have hmk : ∀ W : World, (Instr.makeSlice 24 (.int .i64 3) (.int .i64 3)).run Try.prog W = .ok (.slice (some ⟨W.heap.size, 0, none⟩) 3 3) (W.alloc (.cells #[.int .i64 0, .int .i64 0, .int .i64 0] 3)) := fun _ => by kernel_rfl
  go_enter Try.func21, Try.ntmps21
  go_upto_region 1 with (((with_reducible refine gate_dst (N := 0) rfl ?_); refine wpList_alloc rfl _ rfl _ (zero26 _) #[.slice none 0 0, .slice none 0 0, .int .i64 0] rfl ?_; intro g_k0 w9 hg_k0 k0 f9; have zf_k0 := f.size; have hl_k0 := k0.lt; have z9 := f9.size; replace f := f.trans f9; (try replace ho1 := ho1.fr f9); (try replace ho2 := ho2.fr f9); (try (replace k1 := k1.fr f9; (try clear r_k1); have r_k1 := k1.cells)); (try clear r_k0); have r_k0 := k0.cells))
  simp only [Act.put, List.setIfInBounds_toArray, List.set_cons_zero, List.set_cons_succ]
  go_cut [1] (fun v1 wr => ∃ g1 g3 g4, v1 = .pointer (some ⟨g1, 0, none⟩) ∧ Box wr g1 26 #[.slice (some ⟨g3, 0, none⟩) 3 3, .slice (some ⟨g4, 0, none⟩) 3 3, .int .i64 0] ∧ tInt.orow 3 wr (.slice (some ⟨g3, 0, none⟩) 3 3) [0, 0, 0] [g3] ∧ tInt.orow 3 wr (.slice (some ⟨g4, 0, none⟩) 3 3) [0, 0, 0] [g4] ∧
    g_k0 < g1 ∧ g_k0 < g3 ∧ g_k0 < g4 ∧ g1 ≠ g3 ∧ g1 ≠ g4 ∧ g3 ≠ g4 ∧ Fr w9 wr)
  case first =>
    go_region
    all_goals
      go_wp2
      go_meet
      case rel =>
        refine' ⟨_, _, _, rfl, ⟨_⟩, _, _, _⟩
        rotate_left 2
        · first | exact (three_new _ _ _ _).1 | exact (three_new _ _ _ _).2.1 | exact (three_new _ _ _ _).2.2
        · exact orow_of_heap rfl (by decide) (by first | exact (three_new _ _ _ _).1 | exact (three_new _ _ _ _).2.1 | exact (three_new _ _ _ _).2.2)
        · exact orow_of_heap rfl (by decide) (by first | exact (three_new _ _ _ _).1 | exact (three_new _ _ _ _).2.1 | exact (three_new _ _ _ _).2.2)
        · exact ⟨by omega, by omega, by omega, by omega, by omega, by omega, ((((Fr.refl _).alloc _).alloc _).alloc _).drew⟩
  case rest =>
    obtain ⟨g1, g3, g4, rfl, k1, ho1, ho2, l1, l2, l3, l4, l5, l6, f9⟩ := hcut
    have z9 := f9.size; replace f := f.trans f9; (try replace ho1 := ho1.fr f9); (try replace ho2 := ho2.fr f9); (try (replace k0 := k0.fr f9; (try clear r_k0); have r_k0 := k0.cells)); (try (replace k1 := k1.fr f9; (try clear r_k1); have r_k1 := k1.cells))
    have r_k1 := k1.cells
    have lt3 := ho1.lt g3 (by simp)
    have lt4 := ho2.lt g4 (by simp)
    go_wp2
    go_loopw [2, 9] (fun _ i wr => ∃ k : Nat, k ≤ 3 ∧ i = .int .i64 k ∧ tInt.orow 3 wr (.slice (some ⟨g3, 0, none⟩) 3 3) (List.replicate k 10 ++ List.replicate (3 - k) 0) [g3] ∧ Chg [g3] wc wr) (fun _ i _ => 3 - (intOf i).toNat)
    case atStart => exact ⟨0, by omega, rfl, ho1, Chg.refl _ _⟩
    case round =>
      obtain ⟨k, hk, rfl, hr, hc⟩ := hrel
      have k1' := k1.chg hc (by simp; omega)
      clear r_k0 r_k1
      have r_k1 := k1'.cells
      by_cases hlt : k < 3
      · obtain ⟨g, y, e, h4, g1', g2', hs⟩ := orow_int_at hr (k := k) (by simp; omega)
        cases e
        have hs2 := hs 10
        rw [rep_step k hlt] at hs2
        clear hs hr h4
        have p1 : (k : Int) < 3 := by omega
        go_wp2
        go_roundw
        case rel => exact ⟨k + 1, by omega, by go_num, hs2, hc.set (.inl (by simp)) _⟩
        case measure => simp [intOf]; omega
      · obtain rfl : k = 3 := by omega
        have hr2 : tInt.orow 3 wr (.slice (some ⟨g3, 0, none⟩) 3 3) [10, 10, 10] [g3] := hr
        have ho2' := ho2.chg hc (by simp; omega)
        have k0' := k0.chg hc (by simp; omega)
        have f8 : Fr w wr := f.own hc (by simp; omega)
        have sz3 := hc.size
        have l1' := k1'.lt
        have lo : w.heap.size ≤ g3 ∧ w.heap.size ≤ g4 := by omega
        clear hr hc k0 k1 ho1 ho2 f r_k1
        go_wp2_with (first
          | ((with_reducible refine gate_dst (N := 17) rfl ?_); refine wpList_bload k1' rfl _ _ rfl 0 3 rfl _ Try.underlying26 rfl size26 (by simp) #[.slice (some ⟨g3, 0, none⟩) 3 3, .slice (some ⟨g4, 0, none⟩) 3 3, .int .i64 0] rfl ?_)
          | ((with_reducible refine gate_store (p := 0) rfl ?_); refine wpList_bstore k0' rfl _ _ _ rfl 0 3 rfl (.agg #[.slice (some ⟨g3, 0, none⟩) 3 3, .slice (some ⟨g4, 0, none⟩) 3 3, .int .i64 0]) rfl #[.slice (some ⟨g3, 0, none⟩) 3 3, .slice (some ⟨g4, 0, none⟩) 3 3, .int .i64 0] rfl rfl size26 (by simp) (by intro u hu; simp at hu; rcases hu with rfl | rfl | rfl <;> rfl) #[.slice (some ⟨g3, 0, none⟩) 3 3, .slice (some ⟨g4, 0, none⟩) 3 3, .int .i64 0] rfl ?_; intro w9 k9 c9))
        refine bodyPost_ret (v := .agg #[.slice (some ⟨g3, 0, none⟩) 3 3, .slice (some ⟨g4, 0, none⟩) 3 3, .int .i64 0]) (results_cell_row rfl _ _ g_k0 _ _ _ _ rfl k9.blk Try.underlying26 rfl size26) rfl
          ⟨[.slice (some ⟨g3, 0, none⟩) 3 3, .slice (some ⟨g4, 0, none⟩) 3 3, .int .i64 0], [g3] ++ [g4], rfl, ⟨_, _, [g3], [g4], rfl, rfl, hr2.chg c9 (by simp; omega), ho2'.chg c9 (by simp; omega), by decide, by decide⟩, by simp; omega, by simp; omega, f8.own c9 (by simp; omega)⟩
end Go.Proofs.Ytapdcgjccckjeaa
namespace Go.Proofs.Ytapdcgjccckjeaa
set_option maxRecDepth 100000
set_option linter.unusedVariables false
set_option linter.unusedSimpArgs false
open Go.RowKit
def newSt : St := ⟨0, 1, 0, [], [], [], List.replicate 8 0⟩
theorem newSt_I : I64 0 ∧ I64 1 ∧ I64 0 := by unfold I64; omega
theorem make8 (W : World) : (Instr.makeSlice 24 (.int .i64 8) (.int .i64 8)).run Try.prog W = .ok (.slice (some ⟨W.heap.size, 0, none⟩) 8 8) (W.alloc (.cells #[.int .i64 0, .int .i64 0, .int .i64 0, .int .i64 0, .int .i64 0, .int .i64 0, .int .i64 0, .int .i64 0] 3)) := by kernel_rfl
set_option maxHeartbeats 800000 in
theorem StateNew_c (w : World) : Calls Try.prog 23 #[] w (RetOwn tSt newSt w) := by
  have S := Sep.start w
  have hmk := make8
  go_enter Try.func23, Try.ntmps23
  go_wp2_with (first
    | ((with_reducible refine gate_dst (N := 1) rfl ?_); refine wpList_smade S (by rfl) tInt 3 0 [.int .i64 0] 8 (fun _ => ⟨rfl, rfl⟩) (by decide) #[.int .i64 0, .int .i64 0, .int .i64 0, .int .i64 0, .int .i64 0, .int .i64 0, .int .i64 0, .int .i64 0] (by kernel_rfl) (by first | (go_simp; done) | (go_simp; rfl)) ?_; clear S; intro g1 w9 z9 S)
    | ((with_reducible refine gate_box rfl ?_); refine aBx S ?_; clear S; intro g9 w9 z9 S) | ((with_reducible refine gate_alloc rfl ?_); refine aAl S ?_; clear S; intro g9 w9 z9 S) | ((with_reducible refine gate_load rfl ?_); first | refine aLd S ?_ | refine aPt S ?_ | refine aL1 S ?_) | ((with_reducible refine gate_st rfl ?_); (first | refine aS1 S ?_ | refine aSt S ?_ | refine aSp S ?_); clear S; intro w9 S))
  have S1 := ((S.addNil tBool 4).addNil tBool 4).addNil tPk 88
  have S := S1
  have S' := Sep.shutSt (L := []) (x := 0) (y := 1) (z := 0) (Sep.only4 (a1 := aRow tPk _ _ _ _) (a2 := aRow tBool _ _ _ _) (a3 := aRow tBool _ _ _ _) (a4 := aRow tInt _ _ _ _) S delA delA delA delA) newSt_I
  (refine Sep.ret1 S rfl rfl memA Try.underlying30 rfl ts30 rfl ?_)
  exact S'.retOwn List.mem_cons_self
set_option maxHeartbeats 800000 in
theorem sStateNew_c (w : World) : Calls Try.prog 63 #[] w (RetOwn tSt newSt w) := by
  have S := Sep.start w
  have hmk := make8
  go_enter Try.func63, Try.ntmps63
  go_wp2_with (first
    | ((with_reducible refine gate_dst (N := 1) rfl ?_); refine wpList_smade S (by rfl) tPk 88 zPk zPk.cells 0 (fun _ => ⟨⟨rfl, zPk_ok⟩, rfl⟩) (by decide) #[] (by kernel_rfl) (by first | (go_simp; done) | (go_simp; rfl)) ?_; clear S; intro g1 w9 z9 S)
    | ((with_reducible refine gate_dst (N := 2) rfl ?_); refine wpList_smade S (by rfl) tBool 4 false [.bool false] 0 (fun _ => ⟨rfl, rfl⟩) (by decide) #[] (by kernel_rfl) (by first | (go_simp; done) | (go_simp; rfl)) ?_; clear S; intro g2 w9 z9 S)
    | ((with_reducible refine gate_dst (N := 3) rfl ?_); refine wpList_smade S (by rfl) tBool 4 false [.bool false] 0 (fun _ => ⟨rfl, rfl⟩) (by decide) #[] (by kernel_rfl) (by first | (go_simp; done) | (go_simp; rfl)) ?_; clear S; intro g3 w9 z9 S)
    | ((with_reducible refine gate_dst (N := 4) rfl ?_); refine wpList_smade S (by rfl) tInt 3 0 [.int .i64 0] 8 (fun _ => ⟨rfl, rfl⟩) (by decide) #[.int .i64 0, .int .i64 0, .int .i64 0, .int .i64 0, .int .i64 0, .int .i64 0, .int .i64 0, .int .i64 0] (by kernel_rfl) (by first | (go_simp; done) | (go_simp; rfl)) ?_; clear S; intro g4 w9 z9 S)
    | ((with_reducible refine gate_box rfl ?_); refine aBx S ?_; clear S; intro g9 w9 z9 S) | ((with_reducible refine gate_alloc rfl ?_); refine aAl S ?_; clear S; intro g9 w9 z9 S) | ((with_reducible refine gate_load rfl ?_); first | refine aLd S ?_ | refine aPt S ?_ | refine aL1 S ?_) | ((with_reducible refine gate_st rfl ?_); (first | refine aS1 S ?_ | refine aSt S ?_ | refine aSp S ?_); clear S; intro w9 S))
  have S' := Sep.shutSt (L := []) (x := 0) (y := 1) (z := 0) (Sep.only4 (a1 := aRow tPk _ _ _ [g1]) (a2 := aRow tBool _ _ _ [g2]) (a3 := aRow tBool _ _ _ [g3]) (a4 := aRow tInt _ _ _ [g4]) S delA delA delA delA) newSt_I
  (refine Sep.ret1 S rfl rfl memA Try.underlying30 rfl ts30 rfl ?_)
  exact S'.retOwn List.mem_cons_self
end Go.Proofs.Ytapdcgjccckjeaa
namespace Go.Proofs.Ytapdcgjccckjeaa
set_option maxRecDepth 100000
set_option linter.unusedVariables false
set_option linter.unusedSimpArgs false
open Go.RowKit
theorem Sep.front2 {F0 : List Nat} {w0 w : World} {L L1 L2 : List Asrt} {a1 : Asrt} {a2 : Asrt} (S : Sep F0 w0 L w) (p1 : Del L a1 L1 := by (repeat (first | with_reducible exact Del.head _ _ | with_reducible apply Del.tail)) <;> fail) (p2 : Del L1 a2 L2 := by (repeat (first | with_reducible exact Del.head _ _ | with_reducible apply Del.tail)) <;> fail) : Sep F0 w0 (a1 :: a2 :: L2) w := by
  have T1 := S.pull p1
  have T2 := T1.pull (.tail _ p2)
  have U2 := T2
  have U1 := U2.pull (.tail _ (.head _ _))
  exact U1
theorem Sep.front3 {F0 : List Nat} {w0 w : World} {L L1 L2 L3 : List Asrt} {a1 : Asrt} {a2 : Asrt} {a3 : Asrt} (S : Sep F0 w0 L w) (p1 : Del L a1 L1 := by (repeat (first | with_reducible exact Del.head _ _ | with_reducible apply Del.tail)) <;> fail) (p2 : Del L1 a2 L2 := by (repeat (first | with_reducible exact Del.head _ _ | with_reducible apply Del.tail)) <;> fail) (p3 : Del L2 a3 L3 := by (repeat (first | with_reducible exact Del.head _ _ | with_reducible apply Del.tail)) <;> fail) : Sep F0 w0 (a1 :: a2 :: a3 :: L3) w := by
  have T1 := S.pull p1
  have T2 := T1.pull (.tail _ p2)
  have T3 := T2.pull (.tail _ (.tail _ p3))
  have U3 := T3
  have U2 := U3.pull (.tail _ (.head _ _))
  have U1 := U2.pull (.tail _ (.tail _ (.head _ _)))
  exact U1
theorem Sep.front4 {F0 : List Nat} {w0 w : World} {L L1 L2 L3 L4 : List Asrt} {a1 : Asrt} {a2 : Asrt} {a3 : Asrt} {a4 : Asrt} (S : Sep F0 w0 L w) (p1 : Del L a1 L1 := by (repeat (first | with_reducible exact Del.head _ _ | with_reducible apply Del.tail)) <;> fail) (p2 : Del L1 a2 L2 := by (repeat (first | with_reducible exact Del.head _ _ | with_reducible apply Del.tail)) <;> fail) (p3 : Del L2 a3 L3 := by (repeat (first | with_reducible exact Del.head _ _ | with_reducible apply Del.tail)) <;> fail) (p4 : Del L3 a4 L4 := by (repeat (first | with_reducible exact Del.head _ _ | with_reducible apply Del.tail)) <;> fail) : Sep F0 w0 (a1 :: a2 :: a3 :: a4 :: L4) w := by
  have T1 := S.pull p1
  have T2 := T1.pull (.tail _ p2)
  have T3 := T2.pull (.tail _ (.tail _ p3))
  have T4 := T3.pull (.tail _ (.tail _ (.tail _ p4)))
  have U4 := T4
  have U3 := U4.pull (.tail _ (.head _ _))
  have U2 := U3.pull (.tail _ (.tail _ (.head _ _)))
  have U1 := U2.pull (.tail _ (.tail _ (.tail _ (.head _ _))))
  exact U1
/-- A call that leaves the parts A where it was handed the blocks F. -/
def RetS (v : Value) (F : List Nat) (A : List Asrt) (w : World) : Ending → World → Prop := fun e w' => e = .returned v ∧ Sep F w A w'
theorem Sep.startLnk {w : World} {g : Nat} {c : Ch} {F : List Nat} (h : (aLnk g c F).ok w) (hn : F.Nodup) : Sep F w [aLnk g c F] w :=
  ⟨Chg.refl _ _, (fun a ha => by rw [List.mem_singleton.1 ha]; exact h), (fun a ha q hq => by rw [List.mem_singleton.1 ha] at hq; exact .inl hq), by simpa [fps, aLnk] using hn⟩
theorem Sep.lnk {F0 : List Nat} {w0 w : World} {L : List Asrt} {g : Nat} {c : Ch} {F : List Nat} (S : Sep F0 w0 L w) (h : aLnk g c F ∈ L) : (aLnk g c F).ok w ∧ F.Nodup := ⟨S.ok _ h, S.nodup h⟩
theorem Sep.callLnk {F0 : List Nat} {w0 w w' : World} {L L' A' : List Asrt} {g : Nat} {c : Ch} {F : List Nat} (S : Sep F0 w0 L w) (p : Del L (aLnk g c F) L') (T : Sep F w A' w') : Sep F0 w0 (A' ++ L') w' := Sep.call [aLnk g c F] (S.pull p) (by simpa [fps, aLnk] using T)
set_option maxHeartbeats 3200000 in
theorem bankCopy_c (w : World) (b : Bk) (c1 : List Value) (h1 : tBk.rd w b c1) (hb : b.own.length ≤ 2097152 ∧ b.notes.length ≤ 2097152) : Calls Try.prog 130 #[.agg c1.toArray] w (RetOwn tBk b w) := by
  obtain ⟨v1, v2, rfl, h11, h12, h13⟩ := h1
  obtain ⟨b1, b2⟩ := hb
  have S := Sep.start w
  go_enter Try.func130, Try.ntmps130
  go_wp2_with (first | ((with_reducible refine gate_dst (N := 1) rfl ?_); refine aBx S ?_; clear S; intro gP w9 z9 S) | ((with_reducible refine gate_dst (N := 2) rfl ?_); refine aAl S ?_; clear S; intro gR w9 z9 S))
  have S0 := (Sep.only1 (a1 := aBox gP _ _ _) S delA)
  refine wp_region_noPanic ?_
  refine wp_region_held_drew (S := Sep _ _ _) (by kernel_rfl) S0.drew (fun _ => ?_)
  replace S := S.drew
  clear S0
  refine tk 0 ?_
  (try simp only [Act.put, List.setIfInBounds_toArray, List.set_cons_zero, List.set_cons_succ])
  refine tk 1 ?_
  (try simp only [Act.put, List.setIfInBounds_toArray, List.set_cons_zero, List.set_cons_succ])
  refine tk 3 ?_
  (try simp only [Act.put, List.setIfInBounds_toArray, List.set_cons_zero, List.set_cons_succ])
  refine tk 4 ?_
  (try simp only [Act.put, List.setIfInBounds_toArray, List.set_cons_zero, List.set_cons_succ])
  refine tk 6 ?_
  (try simp only [Act.put, List.setIfInBounds_toArray, List.set_cons_zero, List.set_cons_succ])
  refine tk 7 ?_
  (try simp only [Act.put, List.setIfInBounds_toArray, List.set_cons_zero, List.set_cons_succ])
  refine rdy1 2 (fun K hK => ?_)
  go_simp; (skip; go_at_call 127; (with_reducible refine (freshI_c _ _ b.own (h11.fr S.frame) b1).mono ?_); rintro e w9 ⟨v9, F9, rfl, h9, n9, b9, f9⟩; obtain ⟨A9, c9, rfl⟩ := h9.row.val; replace S := S.new (aRow tInt 3 _ (.slice A9 _ c9) F9) h9 n9 b9 f9; clear h9 n9 b9 f9)
  (first | refine hK.out _ _ (S.sub subA) (fun _ => ?_) | (go_wp2_with fail; refine hK.out _ _ (S.sub subA) (fun _ => ?_)))
  clear hK K
  (try simp only [Act.put, List.setIfInBounds_toArray, List.set_cons_zero, List.set_cons_succ])
  refine rdy1 5 (fun K hK => ?_)
  go_simp; (skip; go_at_call 127; (with_reducible refine (freshI_c _ _ b.notes (h12.fr S.frame) b2).mono ?_); rintro e w9 ⟨v9, F9, rfl, h9, n9, b9, f9⟩; obtain ⟨A9, c9, rfl⟩ := h9.row.val; replace S := S.new (aRow tInt 3 _ (.slice A9 _ c9) F9) h9 n9 b9 f9; clear h9 n9 b9 f9)
  (first | refine hK.out _ _ (S.sub subA) (fun _ => ?_) | (go_wp2_with fail; refine hK.out _ _ (S.sub subA) (fun _ => ?_)))
  clear hK K
  (try simp only [Act.put, List.setIfInBounds_toArray, List.set_cons_zero, List.set_cons_succ])
  refine tk 8 ?_
  (try simp only [Act.put, List.setIfInBounds_toArray, List.set_cons_zero, List.set_cons_succ])
  refine rdy1 9 (fun K hK => ?_)
  (first | refine rgS1 S ?_ | refine rgSt S ?_ | refine rgSp S ?_); clear S; intro w9 S
  (first | refine hK.out _ _ (S.sub subA) (fun _ => ?_) | (go_wp2_with fail; refine hK.out _ _ (S.sub subA) (fun _ => ?_)))
  clear hK K
  (try simp only [Act.put, List.setIfInBounds_toArray, List.set_cons_zero, List.set_cons_succ])
  refine wpAnyH_done (by kernel_rfl) ?_ _
  refine NoPanic.normal ?_
  go_wp2
  have S' := Sep.shutBk (l := b.locked) (Sep.only2 (a1 := aRow tInt _ b.own _ _) (a2 := aRow tInt _ b.notes _ _) S delA delA) h13
  (refine Sep.ret1 S rfl rfl memA Try.underlying26 rfl ts26 rfl ?_)
  exact S'.retOwn List.mem_cons_self
def newCh (id : Int) : Ch := ⟨id, newBk, newSt, [], []⟩
set_option maxHeartbeats 3200000 in
theorem linkNew_c (w : World) (id : Int) (hi : I64 id) : Calls Try.prog 64 #[.int .i64 id] w fun e w' => ∃ g F, e = .returned (.pointer (some ⟨g, 0, none⟩)) ∧ Sep [] w [aLnk g (newCh id) F] w' := by
  have S := Sep.start w
  go_enter Try.func64, Try.ntmps64
  go_wp2_with (first
    | (go_at_call 21; (with_reducible refine (BankNew_c _).mono ?_); rintro e w9 ⟨cs9, F9, rfl, h9, n9, b9, f9⟩; replace S := S.new (aOwn tBk _ cs9 F9) h9 n9 b9 f9; clear h9 n9 b9 f9; obtain ⟨x1, x2, Y1, Y2, rfl, rfl, I9, S⟩ := S.openBk)
    | (go_at_call 23; (with_reducible refine (StateNew_c _).mono ?_); rintro e w9 ⟨cs9, F9, rfl, h9, n9, b9, f9⟩; replace S := S.new (aOwn tSt _ cs9 F9) h9 n9 b9 f9; clear h9 n9 b9 f9; obtain ⟨A1, n1, A2, n2, A3, n3, A4, n4, Z1, Z2, Z3, Z4, rfl, rfl, J9, S⟩ := S.openSt)
    | ((with_reducible refine gate_box rfl ?_); refine aBx S ?_; clear S; intro g9 w9 z9 S) | ((with_reducible refine gate_alloc rfl ?_); refine aAl S ?_; clear S; intro g9 w9 z9 S) | ((with_reducible refine gate_load rfl ?_); first | refine aLd S ?_ | refine aPt S ?_ | refine aL1 S ?_) | ((with_reducible refine gate_st rfl ?_); (first | refine aS1 S ?_ | refine aSt S ?_ | refine aSp S ?_); clear S; intro w9 S))
  have S := S.mksNew
  have S := S.addNil tInt 3
  have S' := S.allLnk ⟨id, newBk, newSt, [], []⟩ I9 J9 hi
  go_ret
  exact ⟨_, _, rfl, S'.left [_]⟩
end Go.Proofs.Ytapdcgjccckjeaa
namespace Go.Proofs.Ytapdcgjccckjeaa
set_option maxRecDepth 100000
set_option linter.unusedVariables false
set_option linter.unusedSimpArgs false
open Go.RowKit
set_option maxHeartbeats 3200000 in
theorem record_c (w : World) (g : Nat) (c : Ch) (F : List Nat) (h : (aLnk g c F).ok w ∧ F.Nodup) (s : St) (cs : List Value) (hs : tSt.rd w s cs) (hb : smallSt s) (hl : c.past.length ≤ 1000000) :
    Calls Try.prog 131 #[.pointer (some ⟨g, 0, none⟩), .agg cs.toArray] w fun e w' => e = .returned (.tuple #[]) ∧ ∃ F', Sep F w [aLnk g ⟨c.id, c.bank, c.st, c.past ++ [s], c.knows⟩ F'] w' := by
  have S := Sep.startLnk h.1 h.2
  obtain ⟨A1, m1, A2, m2, B1, n1, B2, n2, B3, n3, B4, n4, p, A5, m5, Y1, Y2, Z1, Z2, Z3, Z4, M1, K1, I9, J9, h15, S⟩ := S.openLnk
  have LN := Lib.hid (show cs.length = 7 from tSt.len hs)
  have SB := Lib.hid hb
  have pw : IntKind.i64.wrap ((c.past.length : Int) + 1) = (c.past.length : Int) + 1 := IntWalk.i64_in _ (by omega)
  clear h hb hl
  go_enter Try.func131, Try.ntmps131
  go_wp2_with (first
    | ((with_reducible refine gate_dst (N := 3) rfl ?_); refine wpList_box rfl _ _ rfl cs.toArray rfl ?_; intro g3 w9 hg3 k3 f9; replace S := S.new (aBox g3 30 7 cs) ⟨k3, LN.out⟩ (by simp [aBox]) (fun q hq => by rw [List.mem_singleton.1 hq]; exact hg3) f9; have HS := Lib.hid (tSt.fr ((Fr.refl _).drew) (tSt.fr f9 hs))))
  have S0 := (Sep.only1 (a1 := aBox g3 _ _ _) S delA)
  refine wp_region_noPanic ?_
  refine wp_region_held_drew (S := Sep _ _ _) (by kernel_rfl) S0.drew (fun _ => ?_)
  replace S := S.drew
  clear S0
  refine tk 0 ?_
  (try simp only [Act.put, List.setIfInBounds_toArray, List.set_cons_zero, List.set_cons_succ])
  refine tk 1 ?_
  (try simp only [Act.put, List.setIfInBounds_toArray, List.set_cons_zero, List.set_cons_succ])
  refine tk 3 ?_
  (try simp only [Act.put, List.setIfInBounds_toArray, List.set_cons_zero, List.set_cons_succ])
  refine tk 4 ?_
  (try simp only [Act.put, List.setIfInBounds_toArray, List.set_cons_zero, List.set_cons_succ])
  refine tk 5 ?_
  (try simp only [Act.put, List.setIfInBounds_toArray, List.set_cons_zero, List.set_cons_succ])
  refine rdys [2, 6] ?_
  refine rdc 2 (fun K hK => ?_) ?_
  · go_simp; (skip; go_at_call 95; (with_reducible refine (stateCopy_c _ s _ HS.out SB.out).mono ?_); rintro e w9 ⟨cs9, F9, rfl, h9, n9, b9, f9⟩; replace S := S.new (aOwn tSt _ cs9 F9) h9 n9 b9 f9; clear h9 n9 b9 f9; obtain ⟨A6, n6, A7, n7, A8, n8, A9, n9, Z6, Z7, Z8, Z9, rfl, rfl, J6, S9⟩ := S.openSt; replace S := S9; clear S9)
    (first | refine hK.out _ _ (S.sub subA) (fun _ => ?_) | (go_wp2_with fail; refine hK.out _ _ (S.sub subA) (fun _ => ?_)))
    clear hK K
    (try simp only [Act.put, List.setIfInBounds_toArray, List.set_cons_zero, List.set_cons_succ])
    refine rdy1 6 (fun K hK => ?_)
    (first | refine rgLd S ?_ | refine rgPt S ?_ | refine rgL1 S ?_)
    (first | refine hK.out _ _ (S.sub subA) (fun _ => ?_) | (go_wp2_with fail; refine hK.out _ _ (S.sub subA) (fun _ => ?_)))
    clear hK K
    (try simp only [Act.put, List.setIfInBounds_toArray, List.set_cons_zero, List.set_cons_succ])
    refine tk 7 ?_
    (try simp only [Act.put, List.setIfInBounds_toArray, List.set_cons_zero, List.set_cons_succ])
    refine rdy1 8 (fun K hK => ?_)
    refine rgBx S ?_; clear S; intro gm w9 z9 S
    (first | refine hK.out _ _ (S.sub subA) (fun _ => ?_) | (go_wp2_with fail; refine hK.out _ _ (S.sub subA) (fun _ => ?_)))
    clear hK K
    (try simp only [Act.put, List.setIfInBounds_toArray, List.set_cons_zero, List.set_cons_succ])
    refine tk 9 ?_
    (try simp only [Act.put, List.setIfInBounds_toArray, List.set_cons_zero, List.set_cons_succ])
    refine tk 10 ?_
    (try simp only [Act.put, List.setIfInBounds_toArray, List.set_cons_zero, List.set_cons_succ])
    refine rdy1 11 (fun K hK => ?_)
    (first | refine rgS1 S ?_ | refine rgSt S ?_ | refine rgSp S ?_); clear S; intro w9 S
    (first | refine hK.out _ _ (S.sub subA) (fun _ => ?_) | (go_wp2_with fail; refine hK.out _ _ (S.sub subA) (fun _ => ?_)))
    clear hK K
    (try simp only [Act.put, List.setIfInBounds_toArray, List.set_cons_zero, List.set_cons_succ])
    refine wpAnyH_done (by kernel_rfl) ?_ _
    refine NoPanic.normal ?_
    go_wp2_with (first | ((with_reducible refine gate_box rfl ?_); refine aBx S ?_; clear S; intro g9 w9 z9 S) | ((with_reducible refine gate_alloc rfl ?_); refine aAl S ?_; clear S; intro g9 w9 z9 S) | ((with_reducible refine gate_load rfl ?_); first | refine aLd S ?_ | refine aPt S ?_ | refine aL1 S ?_) | ((with_reducible refine gate_st rfl ?_); (first | refine aS1 S ?_ | refine aSt S ?_ | refine aSp S ?_); clear S; intro w9 S))
    have S := Sep.shutSt (x := s.way) (y := s.vsn) (z := s.want) (S.front4 (a1 := aRow tPk _ s.sent _ Z6) (a2 := aRow tBool _ s.live _ Z7) (a3 := aRow tBool _ s.back _ Z8) (a4 := aRow tInt _ s.got _ Z9)) J6
    have S := Sep.mksCons (S.front3 (a1 := aBox gm _ _ _) (a2 := aOwn tSt _ _ _) (a3 := aMks _ _ _))
    have S' := S.allLnk ⟨c.id, c.bank, c.st, c.past ++ [s], c.knows⟩ I9 J9 h15
    (try simp only [Exit.inBlock, Exit.then])
    refine bodyPost_end (results_none rfl _ _ _) rfl ?_
    exact ⟨rfl, _, S'.left [_]⟩
  refine rdc 6 (fun K hK => ?_) AllReadyH.nil
  (first | refine rgLd S ?_ | refine rgPt S ?_ | refine rgL1 S ?_)
  (first | refine hK.out _ _ (S.sub subA) (fun _ => ?_) | (go_wp2_with fail; refine hK.out _ _ (S.sub subA) (fun _ => ?_)))
  clear hK K
  (try simp only [Act.put, List.setIfInBounds_toArray, List.set_cons_zero, List.set_cons_succ])
  refine rdy1 2 (fun K hK => ?_)
  go_simp; (skip; go_at_call 95; (with_reducible refine (stateCopy_c _ s _ HS.out SB.out).mono ?_); rintro e w9 ⟨cs9, F9, rfl, h9, n9, b9, f9⟩; replace S := S.new (aOwn tSt _ cs9 F9) h9 n9 b9 f9; clear h9 n9 b9 f9; obtain ⟨A6, n6, A7, n7, A8, n8, A9, n9, Z6, Z7, Z8, Z9, rfl, rfl, J6, S9⟩ := S.openSt; replace S := S9; clear S9)
  (first | refine hK.out _ _ (S.sub subA) (fun _ => ?_) | (go_wp2_with fail; refine hK.out _ _ (S.sub subA) (fun _ => ?_)))
  clear hK K
  (try simp only [Act.put, List.setIfInBounds_toArray, List.set_cons_zero, List.set_cons_succ])
  refine tk 7 ?_
  (try simp only [Act.put, List.setIfInBounds_toArray, List.set_cons_zero, List.set_cons_succ])
  refine rdy1 8 (fun K hK => ?_)
  refine rgBx S ?_; clear S; intro gm w9 z9 S
  (first | refine hK.out _ _ (S.sub subA) (fun _ => ?_) | (go_wp2_with fail; refine hK.out _ _ (S.sub subA) (fun _ => ?_)))
  clear hK K
  (try simp only [Act.put, List.setIfInBounds_toArray, List.set_cons_zero, List.set_cons_succ])
  refine tk 9 ?_
  (try simp only [Act.put, List.setIfInBounds_toArray, List.set_cons_zero, List.set_cons_succ])
  refine tk 10 ?_
  (try simp only [Act.put, List.setIfInBounds_toArray, List.set_cons_zero, List.set_cons_succ])
  refine rdy1 11 (fun K hK => ?_)
  (first | refine rgS1 S ?_ | refine rgSt S ?_ | refine rgSp S ?_); clear S; intro w9 S
  (first | refine hK.out _ _ (S.sub subA) (fun _ => ?_) | (go_wp2_with fail; refine hK.out _ _ (S.sub subA) (fun _ => ?_)))
  clear hK K
  (try simp only [Act.put, List.setIfInBounds_toArray, List.set_cons_zero, List.set_cons_succ])
  refine wpAnyH_done (by kernel_rfl) ?_ _
  refine NoPanic.normal ?_
  go_wp2_with (first | ((with_reducible refine gate_box rfl ?_); refine aBx S ?_; clear S; intro g9 w9 z9 S) | ((with_reducible refine gate_alloc rfl ?_); refine aAl S ?_; clear S; intro g9 w9 z9 S) | ((with_reducible refine gate_load rfl ?_); first | refine aLd S ?_ | refine aPt S ?_ | refine aL1 S ?_) | ((with_reducible refine gate_st rfl ?_); (first | refine aS1 S ?_ | refine aSt S ?_ | refine aSp S ?_); clear S; intro w9 S))
  have S := Sep.shutSt (x := s.way) (y := s.vsn) (z := s.want) (S.front4 (a1 := aRow tPk _ s.sent _ Z6) (a2 := aRow tBool _ s.live _ Z7) (a3 := aRow tBool _ s.back _ Z8) (a4 := aRow tInt _ s.got _ Z9)) J6
  have S := Sep.mksCons (S.front3 (a1 := aBox gm _ _ _) (a2 := aOwn tSt _ _ _) (a3 := aMks _ _ _))
  have S' := S.allLnk ⟨c.id, c.bank, c.st, c.past ++ [s], c.knows⟩ I9 J9 h15
  (try simp only [Exit.inBlock, Exit.then])
  refine bodyPost_end (results_none rfl _ _ _) rfl ?_
  exact ⟨rfl, _, S'.left [_]⟩
theorem okSt_small {s : St} (h : okSt s = true) : smallSt s := by
  have h1 := okSt_len h
  unfold smallSt
  omega
theorem okBk_len {b : Bk} (h : okBk b = true) : b.own.length = 3 ∧ b.notes.length = 3 := by
  unfold okBk at h
  simp only [Bool.and_eq_true] at h
  exact ⟨okL_len h.1.1.1.1, okL_len h.1.1.1.2⟩
theorem prevK_ge {ks : List Int} : ∀ {k : Nat}, k ≤ ks.length → (List.range k).all (kAt ks) = true → (k : Int) ≤ prevK ks k ∧ prevK ks k ≤ 90
  | 0, _, _ => by simp [prevK]
  | k + 1, hk, h => by
    have h1 : (List.range k).all (kAt ks) = true := by
      rw [List.range_succ, List.all_append, Bool.and_eq_true] at h
      exact h.1
    have h2 : kAt ks k = true := by
      rw [List.range_succ, List.all_append, Bool.and_eq_true] at h
      simpa using h.2
    have h3 := prevK_ge (Nat.le_of_succ_le hk) h1
    rw [prevK_succ (by omega)]
    rw [kAt_eq (by omega), Bool.and_eq_true, decide_eq_true_eq, decide_eq_true_eq] at h2
    omega
theorem knOk_len {ks : List Int} (h : knOk ks = true) : ks.length ≤ 90 := by
  have := prevK_ge (Nat.le_refl _) h
  omega
theorem past_ok {c : Ch} (h : okCh c = true) (k : Nat) (hk : k < c.past.length) : okSt c.past[k] = true := List.all_eq_true.1 (okCh_parts h).2.2.2.2.1 _ (List.getElem_mem hk)
theorem record_b (w : World) (g : Nat) (c : Ch) (F : List Nat) (h : (aLnk g c F).ok w ∧ F.Nodup) (s : St) (cs : List Value) (hs : tSt.rd w s cs) (hb : smallSt s) (hl : c.past.length ≤ 1000000) {ss : List St} (e : c.past ++ [s] = ss) :
    Calls Try.prog 131 #[.pointer (some ⟨g, 0, none⟩), .agg cs.toArray] w fun e w' => e = .returned (.tuple #[]) ∧ ∃ F', Sep F w [aLnk g ⟨c.id, c.bank, c.st, ss, c.knows⟩ F'] w' := e ▸ record_c w g c F h s cs hs hb hl
set_option maxHeartbeats 3200000 in
theorem linkOf_c (w : World) (c : Ch) (c1 : List Value) (h1 : tCh.rd w c c1) (hc : okCh c = true) : Calls Try.prog 104 #[.agg c1.toArray] w fun e w' => ∃ g F, e = .returned (.pointer (some ⟨g, 0, none⟩)) ∧ Sep [] w [aLnk g c F] w' := by
  obtain ⟨b1, b2, s1, s2, s3, s4, v1, v2, rfl, h11, h12, h13, h14, h15⟩ := h1
  obtain ⟨A1, m1, rfl⟩ := h13.val
  obtain ⟨q1, q2, q3, q4, q5, q6⟩ := okCh_parts hc
  have HB := Lib.hid (show c.bank.own.length ≤ 2097152 ∧ c.bank.notes.length ≤ 2097152 by have := okBk_len q2; omega)
  have HS := Lib.hid (okSt_small q3)
  have HK := Lib.hid (show c.knows.length ≤ 2097152 by have := knOk_len q6; omega)
  clear q1 q5
  have S := Sep.start w
  go_enter Try.func104, Try.ntmps104
  go_wp2_with (first | ((with_reducible refine gate_dst (N := 1) rfl ?_); refine aBx S ?_; clear S; intro gP w9 z9 S))
  have S0 := (Sep.only1 (a1 := aBox gP _ _ _) S delA)
  refine wp_region_noPanic ?_
  refine wp_region_held_drew (S := Sep _ _ _) (by kernel_rfl) S0.drew (fun _ => ?_)
  replace S := S.drew
  clear S0
  refine tk 0 ?_
  (try simp only [Act.put, List.setIfInBounds_toArray, List.set_cons_zero, List.set_cons_succ])
  refine tk 1 ?_
  (try simp only [Act.put, List.setIfInBounds_toArray, List.set_cons_zero, List.set_cons_succ])
  refine tk 3 ?_
  (try simp only [Act.put, List.setIfInBounds_toArray, List.set_cons_zero, List.set_cons_succ])
  refine tk 4 ?_
  (try simp only [Act.put, List.setIfInBounds_toArray, List.set_cons_zero, List.set_cons_succ])
  refine tk 5 ?_
  (try simp only [Act.put, List.setIfInBounds_toArray, List.set_cons_zero, List.set_cons_succ])
  refine tk 6 ?_
  (try simp only [Act.put, List.setIfInBounds_toArray, List.set_cons_zero, List.set_cons_succ])
  refine tk 8 ?_
  (try simp only [Act.put, List.setIfInBounds_toArray, List.set_cons_zero, List.set_cons_succ])
  refine tk 9 ?_
  (try simp only [Act.put, List.setIfInBounds_toArray, List.set_cons_zero, List.set_cons_succ])
  refine rdy1 2 (fun K hK => ?_)
  go_simp; (skip; go_at_call 130; (with_reducible refine (bankCopy_c _ c.bank _ (tBk.fr S.frame h11) HB.out).mono ?_); rintro e w9 ⟨cs9, F9, rfl, h9, n9, b9, f9⟩; replace S := S.new (aOwn tBk _ cs9 F9) h9 n9 b9 f9; clear h9 n9 b9 f9; obtain ⟨x1, x2, Y1, Y2, rfl, rfl, I9, S9⟩ := S.openBk; replace S := S9; clear S9)
  (first | refine hK.out _ _ (S.sub subA) (fun _ => ?_) | (go_wp2_with fail; refine hK.out _ _ (S.sub subA) (fun _ => ?_)))
  clear hK K
  (try simp only [Act.put, List.setIfInBounds_toArray, List.set_cons_zero, List.set_cons_succ])
  refine rdy1 7 (fun K hK => ?_)
  go_simp; (skip; go_at_call 95; (with_reducible refine (stateCopy_c _ c.st _ (tSt.fr S.frame h12) HS.out).mono ?_); rintro e w9 ⟨cs9, F9, rfl, h9, n9, b9, f9⟩; replace S := S.new (aOwn tSt _ cs9 F9) h9 n9 b9 f9; clear h9 n9 b9 f9; obtain ⟨A6, n6, A7, n7, A8, n8, A9, n9, Z6, Z7, Z8, Z9, rfl, rfl, J6, S9⟩ := S.openSt; replace S := S9; clear S9)
  (first | refine hK.out _ _ (S.sub subA) (fun _ => ?_) | (go_wp2_with fail; refine hK.out _ _ (S.sub subA) (fun _ => ?_)))
  clear hK K
  (try simp only [Act.put, List.setIfInBounds_toArray, List.set_cons_zero, List.set_cons_succ])
  refine rdy1 10 (fun K hK => ?_)
  go_simp; (skip; go_at_call 127; (with_reducible refine (freshI_c _ _ c.knows (h14.fr S.frame) HK.out).mono ?_); rintro e w9 ⟨v9, F9, rfl, h9, n9, b9, f9⟩; obtain ⟨A9, c9, rfl⟩ := h9.row.val; replace S := S.new (aRow tInt 3 _ (.slice A9 _ c9) F9) h9 n9 b9 f9; clear h9 n9 b9 f9)
  (first | refine hK.out _ _ (S.sub subA) (fun _ => ?_) | (go_wp2_with fail; refine hK.out _ _ (S.sub subA) (fun _ => ?_)))
  clear hK K
  (try simp only [Act.put, List.setIfInBounds_toArray, List.set_cons_zero, List.set_cons_succ])
  refine tk 11 ?_
  (try simp only [Act.put, List.setIfInBounds_toArray, List.set_cons_zero, List.set_cons_succ])
  refine rdy1 12 (fun K hK => ?_)
  refine rgBx S ?_; clear S; intro gL w9 z9 S
  (first | refine hK.out _ _ (S.sub subA) (fun _ => ?_) | (go_wp2_with fail; refine hK.out _ _ (S.sub subA) (fun _ => ?_)))
  clear hK K
  (try simp only [Act.put, List.setIfInBounds_toArray, List.set_cons_zero, List.set_cons_succ])
  refine tk 13 ?_
  (try simp only [Act.put, List.setIfInBounds_toArray, List.set_cons_zero, List.set_cons_succ])
  refine wpAnyH_done (by kernel_rfl) ?_ _
  refine NoPanic.normal ?_
  replace S := S.mksNew
  replace S := S.allLnk ⟨c.id, c.bank, c.st, [], c.knows⟩ I9 J6 h15
  go_wp2_with (first | ((with_reducible refine gate_box rfl ?_); refine aBx S ?_; clear S; intro g9 w9 z9 S) | ((with_reducible refine gate_alloc rfl ?_); refine aAl S ?_; clear S; intro g9 w9 z9 S) | ((with_reducible refine gate_load rfl ?_); first | refine aLd S ?_ | refine aPt S ?_ | refine aL1 S ?_) | ((with_reducible refine gate_st rfl ?_); (first | refine aS1 S ?_ | refine aSt S ?_ | refine aSp S ?_); clear S; intro w9 S))
  go_loopw [22] (fun i wr => ∃ (k : Nat) (F : List Nat), k ≤ c.past.length ∧ i = .int .i64 k ∧ Sep [] w [aLnk gL ⟨c.id, c.bank, c.st, c.past.take k, c.knows⟩ F] wr) (fun i _ => c.past.length - (intOf i).toNat)
  case atStart => exact ⟨0, _, Nat.zero_le _, rfl, S.left [_]⟩
  case round =>
    clear S
    obtain ⟨k, F, hk, rfl, S⟩ := hrel
    by_cases hlt : k < c.past.length
    · obtain ⟨ad1, cs1, rfl, r1, g1⟩ := cellsAt_of_row h13 k hlt
      have G1 := Lib.hid (fun (W : World) (f : Fr w W) => g1.fr f)
      have Q1 := Lib.hid (fun (W : World) (f : Fr w W) => tSt.fr f r1)
      have N1 := Lib.hid (show cs1.length = 7 from tSt.len r1)
      have n1 := tSt_rd_one r1
      have OK := Lib.hid (okSt_small (past_ok hc k hlt))
      have TK := Lib.hid (List.take_succ_eq_append_getElem hlt).symm
      have TL := Lib.hid (show (c.past.take k).length ≤ 1000000 by simp; omega)
      have p0 : (0 : Int) ≤ (k : Int) := Int.natCast_nonneg _
      have p1 : (k : Int) < (c.past.length : Int) := by omega
      clear g1 r1
      go_wp2_with (first | ((with_reducible refine gate_dst (N := 25) rfl ?_); refine aRw (G1.out _ S.frame) ?_ (hn := N1.out)) | (go_at_call 131; (with_reducible refine (record_b _ gL ⟨c.id, c.bank, c.st, c.past.take k, c.knows⟩ F (S.lnk memA) _ _ (Q1.out _ S.frame) OK.out TL.out TK.out).mono ?_); rintro e w9 ⟨rfl, F9, T9⟩; replace S := S.callLnk delA T9; clear T9) | ((with_reducible refine gate_box rfl ?_); refine aBx S ?_; clear S; intro g9 w9 z9 S) | ((with_reducible refine gate_alloc rfl ?_); refine aAl S ?_; clear S; intro g9 w9 z9 S) | ((with_reducible refine gate_load rfl ?_); first | refine aLd S ?_ | refine aPt S ?_ | refine aL1 S ?_) | ((with_reducible refine gate_st rfl ?_); (first | refine aS1 S ?_ | refine aSt S ?_ | refine aSp S ?_); clear S; intro w9 S))
      go_roundw
      case rel => exact ⟨k + 1, F9, by omega, by go_num, S.left [_]⟩
      case measure => simp [intOf]; omega
    · obtain rfl : k = c.past.length := by omega
      rw [List.take_length] at S
      go_wp2_with (first | ((with_reducible refine gate_box rfl ?_); refine aBx S ?_; clear S; intro g9 w9 z9 S) | ((with_reducible refine gate_alloc rfl ?_); refine aAl S ?_; clear S; intro g9 w9 z9 S) | ((with_reducible refine gate_load rfl ?_); first | refine aLd S ?_ | refine aPt S ?_ | refine aL1 S ?_) | ((with_reducible refine gate_st rfl ?_); (first | refine aS1 S ?_ | refine aSt S ?_ | refine aSp S ?_); clear S; intro w9 S))
      go_ret
      exact ⟨gL, F, rfl, S⟩
end Go.Proofs.Ytapdcgjccckjeaa
namespace Go.Proofs.Ytapdcgjccckjeaa
set_option maxRecDepth 100000
set_option linter.unusedVariables false
set_option linter.unusedSimpArgs false
open Go.RowKit
theorem rev_take {α : Type} (xs : List α) (k : Nat) (h : k < xs.length) : (xs.take (k + 1)).reverse = xs[k] :: (xs.take k).reverse := by
  rw [List.take_succ_eq_append_getElem h, List.reverse_append]
  rfl
theorem rep_drop {α : Type} (xs : List α) (z : α) (k : Nat) : List.replicate (k + 1) z ++ xs.drop (k + 1) = List.replicate k z ++ z :: xs.drop (k + 1) := by
  rw [List.replicate_succ', List.append_assoc]
  rfl
set_option maxHeartbeats 6400000 in
theorem chain_c (w : World) (g : Nat) (c : Ch) (F : List Nat) (h : (aLnk g c F).ok w ∧ F.Nodup) (hl : c.past.length ≤ 1000000) :
    Calls Try.prog 65 #[.pointer (some ⟨g, 0, none⟩)] w fun e w' => ∃ cs F', e = .returned (.agg cs.toArray) ∧ Sep F w [aOwn tCh c cs F'] w' := by
  have S := Sep.startLnk h.1 h.2
  obtain ⟨A1, m1, A2, m2, B1, n1, B2, n2, B3, n3, B4, n4, p, A5, m5, Y1, Y2, Z1, Z2, Z3, Z4, M1, K1, I9, J9, h15, S9⟩ := S.openLnk
  replace S := S9
  clear S9
  have HP := Lib.hid (show c.past.length ≤ 2097152 by omega)
  clear h
  go_enter Try.func65, Try.ntmps65
  go_wp2_with (first | ((with_reducible refine gate_dst (N := 2) rfl ?_); refine aAl S ?_; clear S; intro gR w9 z9 S))
  have S0 := (Sep.only1 (a1 := aBox g _ _ _) S delA)
  refine wp_region_noPanic ?_
  refine wp_region_held_drew (S := Sep _ _ _) (by kernel_rfl) S0.drew (fun _ => ?_)
  replace S := S.drew
  clear S0
  refine tk 0 ?_
  (try simp only [Act.put, List.setIfInBounds_toArray, List.set_cons_zero, List.set_cons_succ])
  refine tk 1 ?_
  (try simp only [Act.put, List.setIfInBounds_toArray, List.set_cons_zero, List.set_cons_succ])
  refine tk 2 ?_
  (try simp only [Act.put, List.setIfInBounds_toArray, List.set_cons_zero, List.set_cons_succ])
  refine tk 3 ?_ (hy := by exact yL1)
  (try simp only [Act.put, List.setIfInBounds_toArray, List.set_cons_zero, List.set_cons_succ])
  refine tk 4 ?_
  (try simp only [Act.put, List.setIfInBounds_toArray, List.set_cons_zero, List.set_cons_succ])
  refine tk 5 ?_
  (try simp only [Act.put, List.setIfInBounds_toArray, List.set_cons_zero, List.set_cons_succ])
  refine tk 6 ?_
  (try simp only [Act.put, List.setIfInBounds_toArray, List.set_cons_zero, List.set_cons_succ])
  refine tk 7 ?_ (hy := by exact yPt)
  (try simp only [Act.put, List.setIfInBounds_toArray, List.set_cons_zero, List.set_cons_succ])
  refine tk 8 ?_
  (try simp only [Act.put, List.setIfInBounds_toArray, List.set_cons_zero, List.set_cons_succ])
  refine tk 9 ?_
  (try simp only [Act.put, List.setIfInBounds_toArray, List.set_cons_zero, List.set_cons_succ])
  refine tk 10 ?_
  (try simp only [Act.put, List.setIfInBounds_toArray, List.set_cons_zero, List.set_cons_succ])
  refine tk 11 ?_ (hy := by exact yPt)
  (try simp only [Act.put, List.setIfInBounds_toArray, List.set_cons_zero, List.set_cons_succ])
  refine tk 12 ?_
  (try simp only [Act.put, List.setIfInBounds_toArray, List.set_cons_zero, List.set_cons_succ])
  refine tk 13 ?_
  (try simp only [Act.put, List.setIfInBounds_toArray, List.set_cons_zero, List.set_cons_succ])
  refine tk 14 ?_
  (try simp only [Act.put, List.setIfInBounds_toArray, List.set_cons_zero, List.set_cons_succ])
  refine tk 15 ?_ (hy := by exact yL1)
  (try simp only [Act.put, List.setIfInBounds_toArray, List.set_cons_zero, List.set_cons_succ])
  refine tk 17 ?_
  (try simp only [Act.put, List.setIfInBounds_toArray, List.set_cons_zero, List.set_cons_succ])
  refine tk 18 ?_
  (try simp only [Act.put, List.setIfInBounds_toArray, List.set_cons_zero, List.set_cons_succ])
  refine tk 19 ?_
  (try simp only [Act.put, List.setIfInBounds_toArray, List.set_cons_zero, List.set_cons_succ])
  refine tk 20 ?_ (hy := by exact yL1)
  (try simp only [Act.put, List.setIfInBounds_toArray, List.set_cons_zero, List.set_cons_succ])
  refine rdys [16, 22] ?_
  refine rdc 16 (fun K hK => ?_) ?_
  · refine rgMk (d := tSt) zStS S zStS_own HP.out ?_; clear S; intro gp w9 z9 S
    (first | refine hK.out _ _ (S.sub subA) (fun _ => ?_) | (go_wp2_with fail; refine hK.out _ _ (S.sub subA) (fun _ => ?_)))
    clear hK K
    (try simp only [Act.put, List.setIfInBounds_toArray, List.set_cons_zero, List.set_cons_succ])
    refine tk 21 ?_
    (try simp only [Act.put, List.setIfInBounds_toArray, List.set_cons_zero, List.set_cons_succ])
    refine rdy1 22 (fun K hK => ?_)
    refine rgAl S ?_; clear S; intro gC w9 z9 S
    (first | refine hK.out _ _ (S.sub subA) (fun _ => ?_) | (go_wp2_with fail; refine hK.out _ _ (S.sub subA) (fun _ => ?_)))
    clear hK K
    (try simp only [Act.put, List.setIfInBounds_toArray, List.set_cons_zero, List.set_cons_succ])
    refine rdy1 23 (fun K hK => ?_)
    (first | refine rgS1 S ?_ | refine rgSt S ?_ | refine rgSp S ?_); clear S; intro w9 S
    (first | refine hK.out _ _ (S.sub subA) (fun _ => ?_) | (go_wp2_with fail; refine hK.out _ _ (S.sub subA) (fun _ => ?_)))
    clear hK K
    (try simp only [Act.put, List.setIfInBounds_toArray, List.set_cons_zero, List.set_cons_succ])
    refine wpAnyH_done (by kernel_rfl) ?_ _
    refine NoPanic.normal ?_
    go_wp2_with (first | ((with_reducible refine gate_box rfl ?_); refine aBx S ?_; clear S; intro g9 w9 z9 S) | ((with_reducible refine gate_alloc rfl ?_); refine aAl S ?_; clear S; intro g9 w9 z9 S) | ((with_reducible refine gate_load rfl ?_); first | refine aLd S ?_ | refine aPt S ?_ | refine aL1 S ?_) | ((with_reducible refine gate_st rfl ?_); (first | refine aS1 S ?_ | refine aSt S ?_ | refine aSp S ?_); clear S; intro w9 S))
    go_loopw [4, 5] (fun i m wr => ∃ (k : Nat) (p : Option Addr) (Fm Fp : List Nat), k ≤ c.past.length ∧ i = .int .i64 k ∧ m = .pointer p ∧ Sep F w [aMks (.pointer p) (c.past.take k).reverse Fm, aRow tSt 30 (List.replicate k zStS ++ c.past.drop k) (.slice (some ⟨gp, 0, none⟩) c.past.length c.past.length) Fp, aBox gC 33 13 _, aRow tInt 3 c.bank.own (.slice A1 c.bank.own.length m1) Y1, aRow tInt 3 c.bank.notes (.slice A2 c.bank.notes.length m2) Y2, aRow tPk 88 c.st.sent (.slice B1 c.st.sent.length n1) Z1, aRow tBool 4 c.st.live (.slice B2 c.st.live.length n2) Z2, aRow tBool 4 c.st.back (.slice B3 c.st.back.length n3) Z3, aRow tInt 3 c.st.got (.slice B4 c.st.got.length n4) Z4, aRow tInt 3 c.knows (.slice A5 c.knows.length m5) K1, aBox gR 33 13 _] wr) (fun i _ _ => (intOf i).toNat)
    case atStart => exact ⟨c.past.length, p, M1, _, Nat.le_refl _, rfl, rfl, by rw [List.take_length, List.drop_length, List.append_nil]; exact (Sep.only11 (a1 := aMks _ _ _) (a2 := aRow tSt _ _ _ _) (a3 := aBox gC _ _ _) (a4 := aRow tInt _ _ _ Y1) (a5 := aRow tInt _ _ _ Y2) (a6 := aRow tPk _ _ _ Z1) (a7 := aRow tBool _ _ _ Z2) (a8 := aRow tBool _ _ _ Z3) (a9 := aRow tInt _ _ _ Z4) (a10 := aRow tInt _ _ _ K1) (a11 := aBox gR _ _ _) S delA delA delA delA delA delA delA delA delA delA delA)⟩
    case round =>
      clear S
      obtain ⟨k, p, Fm, Fp, hk, rfl, rfl, S⟩ := hrel
      rcases k with _ | k
      · obtain ⟨hp, S9⟩ := S.mksNil
        cases hp
        replace S := S9
        clear S9
        rw [List.drop_zero, List.replicate_zero, List.nil_append] at S
        go_wp2_with (first | ((with_reducible refine gate_box rfl ?_); refine aBx S ?_; clear S; intro g9 w9 z9 S) | ((with_reducible refine gate_alloc rfl ?_); refine aAl S ?_; clear S; intro g9 w9 z9 S) | ((with_reducible refine gate_load rfl ?_); first | refine aLd S ?_ | refine aPt S ?_ | refine aL1 S ?_) | ((with_reducible refine gate_st rfl ?_); (first | refine aS1 S ?_ | refine aSt S ?_ | refine aSp S ?_); clear S; intro w9 S))
        have S' := S.allCh c I9 J9 h15
        (refine Sep.ret1 S rfl rfl memA Try.underlying33 rfl ts33 rfl ?_)
        exact ⟨_, _, rfl, S'.left [_]⟩
      · have hlt : k < c.past.length := by omega
        rw [rev_take c.past k hlt, rep_drop] at S
        obtain ⟨gm, v1, v2, v3, v4, a, F1, F2, hp, hF, S9⟩ := S.mksUncons
        cases hp
        replace S := S9
        clear S9 hF
        have T0 := Lib.hid (show (List.replicate k zStS).length = k by simp)
        have D1 := Lib.hid (show c.past[k] :: c.past.drop (k + 1) = c.past.drop k from (List.drop_eq_getElem_cons hlt).symm)
        have p0 : (0 : Int) ≤ (k : Int) := Int.natCast_nonneg _
        have p1 : (k : Int) < (c.past.length : Int) := by omega
        have w1 : IntKind.i64.wrap ((k : Int) + 1 - 1) = (k : Int) := by rw [Int.add_sub_cancel]; exact IntWalk.i64_in _ (by omega)
        have w2 : IntKind.i64.wrap (k : Int) = (k : Int) := IntWalk.i64_in _ (by omega)
        clear hk
        go_wp2_with (first | ((with_reducible refine gate_box rfl ?_); refine aBx S ?_; clear S; intro g9 w9 z9 S) | ((with_reducible refine gate_alloc rfl ?_); refine aAl S ?_; clear S; intro g9 w9 z9 S) | ((with_reducible refine gate_load rfl ?_); first | refine aLd S ?_ | refine aPt S ?_ | refine aL1 S ?_) | ((with_reducible refine gate_st rfl ?_); (first | refine aS1 S ?_ | refine aSt S ?_ | refine aSp S ?_); clear S; intro w9 S))
        have S0 := (Sep.only2 (a1 := aBox gm _ _ _) (a2 := aBox gC _ _ _) S delA delA)
        refine wp_region_noPanic ?_
        refine wp_region_held_drew (S := Sep _ _ _) (by kernel_rfl) S0.drew (fun _ => ?_)
        replace S := S.drew
        clear S0
        refine tk 0 ?_
        (try simp only [Act.put, List.setIfInBounds_toArray, List.set_cons_zero, List.set_cons_succ])
        refine tk 1 ?_ (hy := by exact yL1)
        (try simp only [Act.put, List.setIfInBounds_toArray, List.set_cons_zero, List.set_cons_succ])
        refine tk 2 ?_
        (try simp only [Act.put, List.setIfInBounds_toArray, List.set_cons_zero, List.set_cons_succ])
        refine tk 3 ?_
        (try simp only [Act.put, List.setIfInBounds_toArray, List.set_cons_zero, List.set_cons_succ])
        refine tk 4 ?_
        (try simp only [Act.put, List.setIfInBounds_toArray, List.set_cons_zero, List.set_cons_succ])
        refine tk 5 ?_
        (try simp only [Act.put, List.setIfInBounds_toArray, List.set_cons_zero, List.set_cons_succ])
        refine tk 6 ?_ (hy := by exact yPt)
        (try simp only [Act.put, List.setIfInBounds_toArray, List.set_cons_zero, List.set_cons_succ])
        refine tk 7 ?_
        (try simp only [Act.put, List.setIfInBounds_toArray, List.set_cons_zero, List.set_cons_succ])
        refine rdy1 8 (fun K hK => ?_)
        refine rgEl S delA delA T0.out ?_; clear S; intro F9 w9 S
        (first | refine hK.out _ _ (S.sub subA) (fun _ => ?_) | (go_wp2_with fail; refine hK.out _ _ (S.sub subA) (fun _ => ?_)))
        clear hK K
        (try simp only [Act.put, List.setIfInBounds_toArray, List.set_cons_zero, List.set_cons_succ])
        refine wpAnyH_done (by kernel_rfl) ?_ _
        refine NoPanic.normal ?_
        go_wp2_with (first | ((with_reducible refine gate_box rfl ?_); refine aBx S ?_; clear S; intro g9 w9 z9 S) | ((with_reducible refine gate_alloc rfl ?_); refine aAl S ?_; clear S; intro g9 w9 z9 S) | ((with_reducible refine gate_load rfl ?_); first | refine aLd S ?_ | refine aPt S ?_ | refine aL1 S ?_) | ((with_reducible refine gate_st rfl ?_); (first | refine aS1 S ?_ | refine aSt S ?_ | refine aSp S ?_); clear S; intro w9 S))
        rw [D1.out] at S
        go_roundw
        case rel => exact ⟨k, a, F2, F9, by omega, by go_num, rfl, (Sep.only11 (a1 := aMks _ _ _) (a2 := aRow tSt _ _ _ _) (a3 := aBox gC _ _ _) (a4 := aRow tInt _ _ _ Y1) (a5 := aRow tInt _ _ _ Y2) (a6 := aRow tPk _ _ _ Z1) (a7 := aRow tBool _ _ _ Z2) (a8 := aRow tBool _ _ _ Z3) (a9 := aRow tInt _ _ _ Z4) (a10 := aRow tInt _ _ _ K1) (a11 := aBox gR _ _ _) S delA delA delA delA delA delA delA delA delA delA delA)⟩
        case measure => simp [intOf]
  refine rdc 22 (fun K hK => ?_) AllReadyH.nil
  refine rgAl S ?_; clear S; intro gC w9 z9 S
  (first | refine hK.out _ _ (S.sub subA) (fun _ => ?_) | (go_wp2_with fail; refine hK.out _ _ (S.sub subA) (fun _ => ?_)))
  clear hK K
  (try simp only [Act.put, List.setIfInBounds_toArray, List.set_cons_zero, List.set_cons_succ])
  refine rdy1 16 (fun K hK => ?_)
  refine rgMk (d := tSt) zStS S zStS_own HP.out ?_; clear S; intro gp w9 z9 S
  (first | refine hK.out _ _ (S.sub subA) (fun _ => ?_) | (go_wp2_with fail; refine hK.out _ _ (S.sub subA) (fun _ => ?_)))
  clear hK K
  (try simp only [Act.put, List.setIfInBounds_toArray, List.set_cons_zero, List.set_cons_succ])
  refine tk 21 ?_
  (try simp only [Act.put, List.setIfInBounds_toArray, List.set_cons_zero, List.set_cons_succ])
  refine rdy1 23 (fun K hK => ?_)
  (first | refine rgS1 S ?_ | refine rgSt S ?_ | refine rgSp S ?_); clear S; intro w9 S
  (first | refine hK.out _ _ (S.sub subA) (fun _ => ?_) | (go_wp2_with fail; refine hK.out _ _ (S.sub subA) (fun _ => ?_)))
  clear hK K
  (try simp only [Act.put, List.setIfInBounds_toArray, List.set_cons_zero, List.set_cons_succ])
  refine wpAnyH_done (by kernel_rfl) ?_ _
  refine NoPanic.normal ?_
  go_wp2_with (first | ((with_reducible refine gate_box rfl ?_); refine aBx S ?_; clear S; intro g9 w9 z9 S) | ((with_reducible refine gate_alloc rfl ?_); refine aAl S ?_; clear S; intro g9 w9 z9 S) | ((with_reducible refine gate_load rfl ?_); first | refine aLd S ?_ | refine aPt S ?_ | refine aL1 S ?_) | ((with_reducible refine gate_st rfl ?_); (first | refine aS1 S ?_ | refine aSt S ?_ | refine aSp S ?_); clear S; intro w9 S))
  go_loopw [4, 5] (fun i m wr => ∃ (k : Nat) (p : Option Addr) (Fm Fp : List Nat), k ≤ c.past.length ∧ i = .int .i64 k ∧ m = .pointer p ∧ Sep F w [aMks (.pointer p) (c.past.take k).reverse Fm, aRow tSt 30 (List.replicate k zStS ++ c.past.drop k) (.slice (some ⟨gp, 0, none⟩) c.past.length c.past.length) Fp, aBox gC 33 13 _, aRow tInt 3 c.bank.own (.slice A1 c.bank.own.length m1) Y1, aRow tInt 3 c.bank.notes (.slice A2 c.bank.notes.length m2) Y2, aRow tPk 88 c.st.sent (.slice B1 c.st.sent.length n1) Z1, aRow tBool 4 c.st.live (.slice B2 c.st.live.length n2) Z2, aRow tBool 4 c.st.back (.slice B3 c.st.back.length n3) Z3, aRow tInt 3 c.st.got (.slice B4 c.st.got.length n4) Z4, aRow tInt 3 c.knows (.slice A5 c.knows.length m5) K1, aBox gR 33 13 _] wr) (fun i _ _ => (intOf i).toNat)
  case atStart => exact ⟨c.past.length, p, M1, _, Nat.le_refl _, rfl, rfl, by rw [List.take_length, List.drop_length, List.append_nil]; exact (Sep.only11 (a1 := aMks _ _ _) (a2 := aRow tSt _ _ _ _) (a3 := aBox gC _ _ _) (a4 := aRow tInt _ _ _ Y1) (a5 := aRow tInt _ _ _ Y2) (a6 := aRow tPk _ _ _ Z1) (a7 := aRow tBool _ _ _ Z2) (a8 := aRow tBool _ _ _ Z3) (a9 := aRow tInt _ _ _ Z4) (a10 := aRow tInt _ _ _ K1) (a11 := aBox gR _ _ _) S delA delA delA delA delA delA delA delA delA delA delA)⟩
  case round =>
    clear S
    obtain ⟨k, p, Fm, Fp, hk, rfl, rfl, S⟩ := hrel
    rcases k with _ | k
    · obtain ⟨hp, S9⟩ := S.mksNil
      cases hp
      replace S := S9
      clear S9
      rw [List.drop_zero, List.replicate_zero, List.nil_append] at S
      go_wp2_with (first | ((with_reducible refine gate_box rfl ?_); refine aBx S ?_; clear S; intro g9 w9 z9 S) | ((with_reducible refine gate_alloc rfl ?_); refine aAl S ?_; clear S; intro g9 w9 z9 S) | ((with_reducible refine gate_load rfl ?_); first | refine aLd S ?_ | refine aPt S ?_ | refine aL1 S ?_) | ((with_reducible refine gate_st rfl ?_); (first | refine aS1 S ?_ | refine aSt S ?_ | refine aSp S ?_); clear S; intro w9 S))
      have S' := S.allCh c I9 J9 h15
      (refine Sep.ret1 S rfl rfl memA Try.underlying33 rfl ts33 rfl ?_)
      exact ⟨_, _, rfl, S'.left [_]⟩
    · have hlt : k < c.past.length := by omega
      rw [rev_take c.past k hlt, rep_drop] at S
      obtain ⟨gm, v1, v2, v3, v4, a, F1, F2, hp, hF, S9⟩ := S.mksUncons
      cases hp
      replace S := S9
      clear S9 hF
      have T0 := Lib.hid (show (List.replicate k zStS).length = k by simp)
      have D1 := Lib.hid (show c.past[k] :: c.past.drop (k + 1) = c.past.drop k from (List.drop_eq_getElem_cons hlt).symm)
      have p0 : (0 : Int) ≤ (k : Int) := Int.natCast_nonneg _
      have p1 : (k : Int) < (c.past.length : Int) := by omega
      have w1 : IntKind.i64.wrap ((k : Int) + 1 - 1) = (k : Int) := by rw [Int.add_sub_cancel]; exact IntWalk.i64_in _ (by omega)
      have w2 : IntKind.i64.wrap (k : Int) = (k : Int) := IntWalk.i64_in _ (by omega)
      clear hk
      go_wp2_with (first | ((with_reducible refine gate_box rfl ?_); refine aBx S ?_; clear S; intro g9 w9 z9 S) | ((with_reducible refine gate_alloc rfl ?_); refine aAl S ?_; clear S; intro g9 w9 z9 S) | ((with_reducible refine gate_load rfl ?_); first | refine aLd S ?_ | refine aPt S ?_ | refine aL1 S ?_) | ((with_reducible refine gate_st rfl ?_); (first | refine aS1 S ?_ | refine aSt S ?_ | refine aSp S ?_); clear S; intro w9 S))
      have S0 := (Sep.only2 (a1 := aBox gm _ _ _) (a2 := aBox gC _ _ _) S delA delA)
      refine wp_region_noPanic ?_
      refine wp_region_held_drew (S := Sep _ _ _) (by kernel_rfl) S0.drew (fun _ => ?_)
      replace S := S.drew
      clear S0
      refine tk 0 ?_
      (try simp only [Act.put, List.setIfInBounds_toArray, List.set_cons_zero, List.set_cons_succ])
      refine tk 1 ?_ (hy := by exact yL1)
      (try simp only [Act.put, List.setIfInBounds_toArray, List.set_cons_zero, List.set_cons_succ])
      refine tk 2 ?_
      (try simp only [Act.put, List.setIfInBounds_toArray, List.set_cons_zero, List.set_cons_succ])
      refine tk 3 ?_
      (try simp only [Act.put, List.setIfInBounds_toArray, List.set_cons_zero, List.set_cons_succ])
      refine tk 4 ?_
      (try simp only [Act.put, List.setIfInBounds_toArray, List.set_cons_zero, List.set_cons_succ])
      refine tk 5 ?_
      (try simp only [Act.put, List.setIfInBounds_toArray, List.set_cons_zero, List.set_cons_succ])
      refine tk 6 ?_ (hy := by exact yPt)
      (try simp only [Act.put, List.setIfInBounds_toArray, List.set_cons_zero, List.set_cons_succ])
      refine tk 7 ?_
      (try simp only [Act.put, List.setIfInBounds_toArray, List.set_cons_zero, List.set_cons_succ])
      refine rdy1 8 (fun K hK => ?_)
      refine rgEl S delA delA T0.out ?_; clear S; intro F9 w9 S
      (first | refine hK.out _ _ (S.sub subA) (fun _ => ?_) | (go_wp2_with fail; refine hK.out _ _ (S.sub subA) (fun _ => ?_)))
      clear hK K
      (try simp only [Act.put, List.setIfInBounds_toArray, List.set_cons_zero, List.set_cons_succ])
      refine wpAnyH_done (by kernel_rfl) ?_ _
      refine NoPanic.normal ?_
      go_wp2_with (first | ((with_reducible refine gate_box rfl ?_); refine aBx S ?_; clear S; intro g9 w9 z9 S) | ((with_reducible refine gate_alloc rfl ?_); refine aAl S ?_; clear S; intro g9 w9 z9 S) | ((with_reducible refine gate_load rfl ?_); first | refine aLd S ?_ | refine aPt S ?_ | refine aL1 S ?_) | ((with_reducible refine gate_st rfl ?_); (first | refine aS1 S ?_ | refine aSt S ?_ | refine aSp S ?_); clear S; intro w9 S))
      rw [D1.out] at S
      go_roundw
      case rel => exact ⟨k, a, F2, F9, by omega, by go_num, rfl, (Sep.only11 (a1 := aMks _ _ _) (a2 := aRow tSt _ _ _ _) (a3 := aBox gC _ _ _) (a4 := aRow tInt _ _ _ Y1) (a5 := aRow tInt _ _ _ Y2) (a6 := aRow tPk _ _ _ Z1) (a7 := aRow tBool _ _ _ Z2) (a8 := aRow tBool _ _ _ Z3) (a9 := aRow tInt _ _ _ Z4) (a10 := aRow tInt _ _ _ K1) (a11 := aBox gR _ _ _) S delA delA delA delA delA delA delA delA delA delA delA)⟩
      case measure => simp [intOf]
end Go.Proofs.Ytapdcgjccckjeaa
namespace Go.Proofs.Ytapdcgjccckjeaa
set_option maxRecDepth 100000
set_option linter.unusedVariables false
set_option linter.unusedSimpArgs false
open Go.RowKit
def nilCh : Ch := ⟨0, ⟨[], [], 0⟩, ⟨0, 0, 0, [], [], [], []⟩, [], []⟩
theorem nilCh_own (w : World) : tCh.own w nilCh [.int .i64 0, .slice none 0 0, .slice none 0 0, .int .i64 0, .int .i64 0, .int .i64 0, .int .i64 0, .slice none 0 0, .slice none 0 0, .slice none 0 0, .slice none 0 0, .slice none 0 0, .slice none 0 0] [] :=
  ⟨.slice none 0 0, .slice none 0 0, .slice none 0 0, .slice none 0 0, .slice none 0 0, .slice none 0 0, .slice none 0 0, .slice none 0 0, [], [], [], [], rfl, rfl, ⟨.slice none 0 0, .slice none 0 0, [], [], rfl, rfl, Ty.orow.nil _ _ _, Ty.orow.nil _ _ _, by unfold I64; simp [nilCh]⟩, zStS_own w, Ty.orow.nil _ _ _, Ty.orow.nil _ _ _, by unfold I64; simp [nilCh]⟩
theorem Sep.nilCh {F0 : List Nat} {w0 w : World} {L : List Asrt} (S : Sep F0 w0 L w) : Sep F0 w0 (aOwn tCh nilCh [.int .i64 0, .slice none 0 0, .slice none 0 0, .int .i64 0, .int .i64 0, .int .i64 0, .int .i64 0, .slice none 0 0, .slice none 0 0, .slice none 0 0, .slice none 0 0, .slice none 0 0, .slice none 0 0] [] :: L) w :=
  S.new (aOwn tCh Go.Proofs.Ytapdcgjccckjeaa.nilCh _ []) (nilCh_own w) (by simp [aOwn]) (fun q hq => by cases hq) (Fr.refl _)
theorem Sep.call01 {F0 : List Nat} {w0 w w' : World} {L : List Asrt} {a : Asrt} (S : Sep F0 w0 L w) (T : Sep [] w [a] w') : Sep F0 w0 (a :: L) w' := Sep.call [] S T
theorem Sep.callLnk1 {F0 : List Nat} {w0 w w' : World} {L L' : List Asrt} {a : Asrt} {g : Nat} {c : Ch} {F : List Nat} (S : Sep F0 w0 L w) (p : Del L (aLnk g c F) L') (T : Sep F w [a] w') : Sep F0 w0 (a :: L') w' := S.callLnk p T
theorem newCh_len (id : Int) : (newCh id).past.length ≤ 1000000 := Nat.zero_le _
def chNewV (id : Int) : Ch × Bool := if id = 1 ∨ id = 2 then (newCh id, true) else (nilCh, false)
set_option maxHeartbeats 3200000 in
theorem ChainNew_c (w : World) (id : Int) (hi : I64 id) : Calls Try.prog 17 #[.int .i64 id] w (RetOwn2 tCh (chNewV id) w) := by
  have S := Sep.start w
  by_cases h : id = 1 ∨ id = 2
  · have R := Lib.hid (show chNewV id = (newCh id, true) by unfold chNewV; rw [if_pos h])
    have HI := Lib.hid hi
    clear hi
    rcases h with rfl | rfl
    all_goals
      go_enter Try.func17, Try.ntmps17
      go_wp2_with (first
        | (go_at_call 64; (with_reducible refine (linkNew_c _ _ HI.out).mono ?_); rintro e w9 ⟨g9, F9, rfl, T9⟩; replace S := S.call01 T9; clear T9)
        | (go_at_call 65; (with_reducible refine (chain_c _ g9 (newCh _) F9 (S.lnk memA) (newCh_len _)).mono ?_); rintro e w9 ⟨cs9, G9, rfl, T9⟩; replace S := S.callLnk1 delA T9; clear T9)
        | ((with_reducible refine gate_box rfl ?_); refine aBx S ?_; clear S; intro g9 w9 z9 S) | ((with_reducible refine gate_alloc rfl ?_); refine aAl S ?_; clear S; intro g9 w9 z9 S) | ((with_reducible refine gate_load rfl ?_); first | refine aLd S ?_ | refine aPt S ?_ | refine aL1 S ?_) | ((with_reducible refine gate_st rfl ?_); (first | refine aS1 S ?_ | refine aSt S ?_ | refine aSp S ?_); clear S; intro w9 S))
      (refine Sep.ret1_1 S rfl rfl memA Try.underlying33 rfl ts33 rfl rfl ?_)
      rw [R.out]
      exact S.retOwn2 memA
  · have R := Lib.hid (show chNewV id = (nilCh, false) by unfold chNewV; rw [if_neg h])
    have d1 : (id != 1) = true := by simp; omega
    have d2 : (id != 2) = true := by simp; omega
    clear h hi
    go_enter Try.func17, Try.ntmps17
    go_wp2_with (first | ((with_reducible refine gate_box rfl ?_); refine aBx S ?_; clear S; intro g9 w9 z9 S) | ((with_reducible refine gate_alloc rfl ?_); refine aAl S ?_; clear S; intro g9 w9 z9 S) | ((with_reducible refine gate_load rfl ?_); first | refine aLd S ?_ | refine aPt S ?_ | refine aL1 S ?_) | ((with_reducible refine gate_st rfl ?_); (first | refine aS1 S ?_ | refine aSt S ?_ | refine aSp S ?_); clear S; intro w9 S))
    have S' := S.nilCh
    (refine Sep.ret1_1 S rfl rfl memA Try.underlying33 rfl ts33 rfl rfl ?_)
    rw [R.out]
    exact S'.retOwn2 List.mem_cons_self
set_option maxHeartbeats 3200000 in
theorem sChainNew_c (w : World) (id : Int) (hi : I64 id) : Calls Try.prog 16 #[.int .i64 id] w (RetOwn2 tCh (chNewV id) w) := by
  have S := Sep.start w
  by_cases h : id = 1 ∨ id = 2
  · have R := Lib.hid (show chNewV id = (newCh id, true) by unfold chNewV; rw [if_pos h])
    have HI := Lib.hid (show decide (1 ≤ id ∧ id ≤ 2) = true by simp; omega)
    clear h
    go_enter Try.func16, Try.ntmps16
    go_wp2_with (first
      | (go_at_call 61; (with_reducible refine (l6In_e _ id 1 2 HI.out).mono ?_); rintro e w9 ⟨rfl, rfl⟩)
      | (go_at_call 62; (with_reducible refine (sBankNew_c _).mono ?_); rintro e w9 ⟨cs9, F9, rfl, h9, n9, b9, f9⟩; replace S := S.new (aOwn tBk _ cs9 F9) h9 n9 b9 f9; clear h9 n9 b9 f9; obtain ⟨x1, x2, Y1, Y2, rfl, rfl, I9, S9⟩ := S.openBk; replace S := S9; clear S9)
      | (go_at_call 63; (with_reducible refine (sStateNew_c _).mono ?_); rintro e w9 ⟨cs9, F9, rfl, h9, n9, b9, f9⟩; replace S := S.new (aOwn tSt _ cs9 F9) h9 n9 b9 f9; clear h9 n9 b9 f9; obtain ⟨A1, n1, A2, n2, A3, n3, A4, n4, Z1, Z2, Z3, Z4, rfl, rfl, J9, S9⟩ := S.openSt; replace S := S9; clear S9)
      | ((with_reducible refine gate_dst (N := 11) rfl ?_); refine aLit0 tSt (e := 30) S ?_; clear S; intro g11 w9 z9 S)
      | ((with_reducible refine gate_dst (N := 12) rfl ?_); refine aLit0 tInt (e := 3) S ?_; clear S; intro g12 w9 z9 S)
      | ((with_reducible refine gate_box rfl ?_); refine aBx S ?_; clear S; intro g9 w9 z9 S) | ((with_reducible refine gate_alloc rfl ?_); refine aAl S ?_; clear S; intro g9 w9 z9 S) | ((with_reducible refine gate_load rfl ?_); first | refine aLd S ?_ | refine aPt S ?_ | refine aL1 S ?_) | ((with_reducible refine gate_st rfl ?_); (first | refine aS1 S ?_ | refine aSt S ?_ | refine aSp S ?_); clear S; intro w9 S))
    have S' := S.allCh ⟨id, newBk, newSt, [], []⟩ I9 J9 hi
    (refine Sep.ret1_1 S rfl rfl memA Try.underlying33 rfl ts33 rfl rfl ?_)
    rw [R.out]
    exact S'.retOwn2 List.mem_cons_self
  · have R := Lib.hid (show chNewV id = (nilCh, false) by unfold chNewV; rw [if_neg h])
    have HI := Lib.hid (show decide (1 ≤ id ∧ id ≤ 2) = false by simp; omega)
    clear h hi
    go_enter Try.func16, Try.ntmps16
    go_wp2_with (first
      | (go_at_call 61; (with_reducible refine (l6In_e _ id 1 2 HI.out).mono ?_); rintro e w9 ⟨rfl, rfl⟩)
      | ((with_reducible refine gate_box rfl ?_); refine aBx S ?_; clear S; intro g9 w9 z9 S) | ((with_reducible refine gate_alloc rfl ?_); refine aAl S ?_; clear S; intro g9 w9 z9 S) | ((with_reducible refine gate_load rfl ?_); first | refine aLd S ?_ | refine aPt S ?_ | refine aL1 S ?_) | ((with_reducible refine gate_st rfl ?_); (first | refine aS1 S ?_ | refine aSt S ?_ | refine aSp S ?_); clear S; intro w9 S))
    have S' := S.nilCh
    (refine Sep.ret1_1 S rfl rfl memA Try.underlying33 rfl ts33 rfl rfl ?_)
    rw [R.out]
    exact S'.retOwn2 List.mem_cons_self
theorem ChainNew_e (w : World) (id : Int) (hi : I64 id) {x : Ch} {ok : Bool} (hR : chNewV id = (x, ok)) : Calls Try.prog 17 #[.int .i64 id] w (RetOwn2 tCh (x, ok) w) := hR ▸ ChainNew_c w id hi
theorem sChainNew_e (w : World) (id : Int) (hi : I64 id) {x : Ch} {ok : Bool} (hR : chNewV id = (x, ok)) : Calls Try.prog 16 #[.int .i64 id] w (RetOwn2 tCh (x, ok) w) := hR ▸ sChainNew_c w id hi
theorem chNewV_small {id : Int} {x : Ch} {ok : Bool} (hR : chNewV id = (x, ok)) : SmallCh x := by
  unfold chNewV at hR
  split at hR
  all_goals
    simp only [Prod.mk.injEq] at hR
    rw [← hR.1]
  · exact ⟨⟨by simp [newCh, newBk], by simp [newCh, newBk]⟩, by simp [Small, newCh, newSt], fun k h => by simp [newCh] at h, by simp [newCh, cntMStS], by simp [newCh]⟩
  · exact ⟨⟨by simp [nilCh], by simp [nilCh]⟩, by simp [Small, nilCh], fun k h => by simp [nilCh] at h, by simp [nilCh, cntMStS], by simp [nilCh]⟩
end Go.Proofs.Ytapdcgjccckjeaa
namespace Go.Proofs.Ytapdcgjccckjeaa
set_option maxRecDepth 100000
set_option linter.unusedVariables false
set_option linter.unusedSimpArgs false
open Go.RowKit
theorem Sep.call03 {F0 : List Nat} {w0 w w' : World} {L : List Asrt} {a b c : Asrt} (S : Sep F0 w0 L w) (T : Sep [] w [a, b, c] w') : Sep F0 w0 (a :: b :: c :: L) w' := Sep.call [] S T
theorem Sep.shapeCh {F0 : List Nat} {w0 w : World} {L : List Asrt} {c : Ch} {cs : List Value} {F : List Nat} (S : Sep F0 w0 L w) (h : aOwn tCh c cs F ∈ L) : ∃ A1 c1 A2 c2 A3 c3 A4 c4 A5 c5 A6 c6 A7 c7 A8 c8, cs = [.int .i64 c.id, .slice A1 c.bank.own.length c1, .slice A2 c.bank.notes.length c2, .int .i64 c.bank.locked, .int .i64 c.st.way, .int .i64 c.st.vsn, .int .i64 c.st.want, .slice A3 c.st.sent.length c3, .slice A4 c.st.live.length c4, .slice A5 c.st.back.length c5, .slice A6 c.st.got.length c6, .slice A7 c.past.length c7, .slice A8 c.knows.length c8] := by
  obtain ⟨b1, b2, s1, s2, s3, s4, v1, v2, F1, F2, F3, F4, e, _, ⟨y1, y2, _, _, e1, _, a1, a2, _⟩, ⟨y3, y4, y5, y6, _, _, _, _, e2, _, a3, a4, a5, a6, _⟩, a7, a8, _⟩ := S.own h
  simp only [List.cons.injEq, and_true, true_and] at e1 e2
  obtain ⟨rfl, rfl⟩ := e1
  obtain ⟨rfl, rfl, rfl, rfl⟩ := e2
  obtain ⟨A1, c1, rfl⟩ := a1.row.val
  obtain ⟨A2, c2, rfl⟩ := a2.row.val
  obtain ⟨A3, c3, rfl⟩ := a3.row.val
  obtain ⟨A4, c4, rfl⟩ := a4.row.val
  obtain ⟨A5, c5, rfl⟩ := a5.row.val
  obtain ⟨A6, c6, rfl⟩ := a6.row.val
  obtain ⟨A7, c7, rfl⟩ := a7.row.val
  obtain ⟨A8, c8, rfl⟩ := a8.row.val
  exact ⟨_, _, _, _, _, _, _, _, _, _, _, _, _, _, _, _, e⟩
def cntMWd (x : Wd) : Nat := cntMChS x.chains
def markWd (q : Int) (x : Wd) : Wd := ⟨marksC q x.chains⟩
def SmallWd (x : Wd) : Prop := (∀ k (h : k < x.chains.length), SmallCh x.chains[k]) ∧ cntMChS x.chains ≤ 1000000000
theorem markWorld_b (w : World) (x : Wd) (cs : List Value) (F : List Nat) (q : Int) (hb : SmallWd x) (h : tWd.own w x cs F ∧ F.Nodup) (hq0 : 0 ≤ q) (hq1 : q ≤ 100000000000) :
    Calls Try.prog 30 #[.agg cs.toArray, .int .i64 q] w (RetMk tWd (q + cntMWd x) (markWd q x) cs F w) := by
  obtain ⟨⟨v, rfl, ho⟩, hn⟩ := h
  obtain ⟨A1, c1, rfl⟩ := ho.row.val
  have S := Sep.startRow ho hn
  have HC := Lib.hid hb.2
  clear ho hb
  go_enter Try.func30, Try.ntmps30
  go_wp2_with (first
    | (go_at_call 82; (with_reducible refine (markChainS_c _ (.slice A1 x.chains.length c1) x.chains F _ (S.row memA) hn (by omega) (by omega) HC.out).mono ?_); rintro e w9 ⟨rfl, h9, c9⟩; replace S := S.putRow putA h9 c9; clear h9 c9)
    | ((with_reducible refine gate_box rfl ?_); refine aBx S ?_; clear S; intro g9 w9 z9 S) | ((with_reducible refine gate_alloc rfl ?_); refine aAl S ?_; clear S; intro g9 w9 z9 S) | ((with_reducible refine gate_load rfl ?_); first | refine aLd S ?_ | refine aPt S ?_ | refine aL1 S ?_) | ((with_reducible refine gate_st rfl ?_); (first | refine aS1 S ?_ | refine aSt S ?_ | refine aSp S ?_); clear S; intro w9 S))
  go_ret
  exact ⟨rfl, ⟨_, rfl, S.row (d := tCh) (F := F) (xs := marksC q x.chains) memA⟩, S.chg⟩
theorem heldWorld_c (w : World) (x : Wd) (c1 : List Value) (q : Int) (h1 : tWd.rd w (markWd q x) c1) (hb : SmallWd x) (hq0 : 0 ≤ q) (hq1 : q ≤ 100000000000) :
    Calls Try.prog 31 #[.agg c1.toArray, .int .i64 q] w (Ret (.int .i64 (q + cntMWd x)) w) := by
  obtain ⟨v, rfl, h1⟩ := h1
  replace h1 : tCh.row w v (marksC q x.chains) := h1
  obtain ⟨A1, c1, rfl⟩ := h1.val
  have H1 := Lib.hid h1
  have HB := Lib.hid hb.1
  have HC := Lib.hid hb.2
  have S := Sep.start w
  have t1 : decide (q + (cntMChS x.chains : Int) < 0) = false := decide_eq_false (by omega)
  clear h1 hb
  go_enter Try.func31, Try.ntmps31
  go_wp2_with (first
    | (go_at_call 83; go_loud ((with_reducible refine (heldChainS_c _ _ x.chains q (H1.out.fr S.frame) HB.out hq0 hq1 HC.out).mono ?_); rintro e w9 ⟨rfl, f9⟩; replace S := S.fr f9; clear f9))
    | ((with_reducible refine gate_box rfl ?_); refine aBx S ?_; clear S; intro g9 w9 z9 S) | ((with_reducible refine gate_alloc rfl ?_); refine aAl S ?_; clear S; intro g9 w9 z9 S) | ((with_reducible refine gate_load rfl ?_); first | refine aLd S ?_ | refine aPt S ?_ | refine aL1 S ?_) | ((with_reducible refine gate_st rfl ?_); (first | refine aS1 S ?_ | refine aSt S ?_ | refine aSp S ?_); clear S; intro w9 S))
  go_ret
  exact ⟨rfl, S.frame⟩
def newWd : Wd := ⟨[newCh 1, newCh 2]⟩
set_option maxHeartbeats 3200000 in
theorem pairNew_c (w : World) : Calls Try.prog 79 #[] w fun e w' => ∃ g g1 g2 F1 F2, e = .returned (.pointer (some ⟨g, 0, none⟩)) ∧ Sep [] w [aBox g 142 2 [.pointer (some ⟨g1, 0, none⟩), .pointer (some ⟨g2, 0, none⟩)], aLnk g2 (newCh 2) F2, aLnk g1 (newCh 1) F1] w' := by
  have S := Sep.start w
  have w1 : IntKind.i64.wrap 1 = 1 := by decide
  have w2 : IntKind.i64.wrap 2 = 2 := by decide
  go_enter Try.func79, Try.ntmps79
  go_wp2_with (first | ((with_reducible refine gate_box rfl ?_); refine aBx S ?_; clear S; intro g9 w9 z9 S) | ((with_reducible refine gate_alloc rfl ?_); refine aAl S ?_; clear S; intro g9 w9 z9 S) | ((with_reducible refine gate_load rfl ?_); first | refine aLd S ?_ | refine aPt S ?_ | refine aL1 S ?_) | ((with_reducible refine gate_st rfl ?_); (first | refine aS1 S ?_ | refine aSt S ?_ | refine aSp S ?_); clear S; intro w9 S))
  refine wp_loop_rounds 3 ?_
  rw [rounds_succ]
  go_wp2_with (first | ((with_reducible refine gate_box rfl ?_); refine aBx S ?_; clear S; intro g9 w9 z9 S) | ((with_reducible refine gate_alloc rfl ?_); refine aAl S ?_; clear S; intro g9 w9 z9 S) | ((with_reducible refine gate_load rfl ?_); first | refine aLd S ?_ | refine aPt S ?_ | refine aL1 S ?_) | ((with_reducible refine gate_st rfl ?_); (first | refine aS1 S ?_ | refine aSt S ?_ | refine aSp S ?_); clear S; intro w9 S))
  have S0 := S.sub (L' := []) subA
  refine wp_region_noPanic ?_
  refine wp_region_held_drew (S := Sep _ _ _) (by kernel_rfl) S0.drew (fun _ => ?_)
  replace S := S.drew
  clear S0
  refine tk 0 ?_
  (try simp only [Act.put, List.setIfInBounds_toArray, List.set_cons_zero, List.set_cons_succ])
  refine tk 1 ?_
  (try simp only [Act.put, List.setIfInBounds_toArray, List.set_cons_zero, List.set_cons_succ])
  refine tk 2 ?_
  (try simp only [Act.put, List.setIfInBounds_toArray, List.set_cons_zero, List.set_cons_succ])
  refine tk 3 ?_
  (try simp only [Act.put, List.setIfInBounds_toArray, List.set_cons_zero, List.set_cons_succ])
  refine tk 5 ?_
  (try simp only [Act.put, List.setIfInBounds_toArray, List.set_cons_zero, List.set_cons_succ])
  refine tk 6 ?_
  (try simp only [Act.put, List.setIfInBounds_toArray, List.set_cons_zero, List.set_cons_succ])
  refine rdy1 4 (fun K hK => ?_)
  go_simp; (skip; go_at_call 64; (with_reducible refine (linkNew_c _ 1 (by unfold I64; omega)).mono ?_); rintro e w9 ⟨g1, F1, rfl, T9⟩; replace S := S.call01 T9; clear T9)
  (first | refine hK.out _ _ (S.sub subA) (fun _ => ?_) | (go_wp2_with fail; refine hK.out _ _ (S.sub subA) (fun _ => ?_)))
  clear hK K
  (try simp only [Act.put, List.setIfInBounds_toArray, List.set_cons_zero, List.set_cons_succ])
  refine tk 7 ?_
  (try simp only [Act.put, List.setIfInBounds_toArray, List.set_cons_zero, List.set_cons_succ])
  refine rdy1 8 (fun K hK => ?_)
  (first | refine rgS1 S ?_ | refine rgSt S ?_ | refine rgSp S ?_); clear S; intro w9 S
  (first | refine hK.out _ _ (S.sub subA) (fun _ => ?_) | (go_wp2_with fail; refine hK.out _ _ (S.sub subA) (fun _ => ?_)))
  clear hK K
  (try simp only [Act.put, List.setIfInBounds_toArray, List.set_cons_zero, List.set_cons_succ])
  refine wpAnyH_done (by kernel_rfl) ?_ _
  refine NoPanic.normal ?_
  go_wp2_with (first | ((with_reducible refine gate_box rfl ?_); refine aBx S ?_; clear S; intro g9 w9 z9 S) | ((with_reducible refine gate_alloc rfl ?_); refine aAl S ?_; clear S; intro g9 w9 z9 S) | ((with_reducible refine gate_load rfl ?_); first | refine aLd S ?_ | refine aPt S ?_ | refine aL1 S ?_) | ((with_reducible refine gate_st rfl ?_); (first | refine aS1 S ?_ | refine aSt S ?_ | refine aSp S ?_); clear S; intro w9 S))
  rw [rounds_succ]
  go_wp2_with (first | ((with_reducible refine gate_box rfl ?_); refine aBx S ?_; clear S; intro g9 w9 z9 S) | ((with_reducible refine gate_alloc rfl ?_); refine aAl S ?_; clear S; intro g9 w9 z9 S) | ((with_reducible refine gate_load rfl ?_); first | refine aLd S ?_ | refine aPt S ?_ | refine aL1 S ?_) | ((with_reducible refine gate_st rfl ?_); (first | refine aS1 S ?_ | refine aSt S ?_ | refine aSp S ?_); clear S; intro w9 S))
  have S0 := S.sub (L' := []) subA
  refine wp_region_noPanic ?_
  refine wp_region_held_drew (S := Sep _ _ _) (by kernel_rfl) S0.drew (fun _ => ?_)
  replace S := S.drew
  clear S0
  refine tk 0 ?_
  (try simp only [Act.put, List.setIfInBounds_toArray, List.set_cons_zero, List.set_cons_succ])
  refine tk 1 ?_
  (try simp only [Act.put, List.setIfInBounds_toArray, List.set_cons_zero, List.set_cons_succ])
  refine tk 2 ?_
  (try simp only [Act.put, List.setIfInBounds_toArray, List.set_cons_zero, List.set_cons_succ])
  refine tk 3 ?_
  (try simp only [Act.put, List.setIfInBounds_toArray, List.set_cons_zero, List.set_cons_succ])
  refine tk 5 ?_
  (try simp only [Act.put, List.setIfInBounds_toArray, List.set_cons_zero, List.set_cons_succ])
  refine tk 6 ?_
  (try simp only [Act.put, List.setIfInBounds_toArray, List.set_cons_zero, List.set_cons_succ])
  refine rdy1 4 (fun K hK => ?_)
  go_simp; (skip; go_at_call 64; (with_reducible refine (linkNew_c _ 2 (by unfold I64; omega)).mono ?_); rintro e w9 ⟨g2, F2, rfl, T9⟩; replace S := S.call01 T9; clear T9)
  (first | refine hK.out _ _ (S.sub subA) (fun _ => ?_) | (go_wp2_with fail; refine hK.out _ _ (S.sub subA) (fun _ => ?_)))
  clear hK K
  (try simp only [Act.put, List.setIfInBounds_toArray, List.set_cons_zero, List.set_cons_succ])
  refine tk 7 ?_
  (try simp only [Act.put, List.setIfInBounds_toArray, List.set_cons_zero, List.set_cons_succ])
  refine rdy1 8 (fun K hK => ?_)
  (first | refine rgS1 S ?_ | refine rgSt S ?_ | refine rgSp S ?_); clear S; intro w9 S
  (first | refine hK.out _ _ (S.sub subA) (fun _ => ?_) | (go_wp2_with fail; refine hK.out _ _ (S.sub subA) (fun _ => ?_)))
  clear hK K
  (try simp only [Act.put, List.setIfInBounds_toArray, List.set_cons_zero, List.set_cons_succ])
  refine wpAnyH_done (by kernel_rfl) ?_ _
  refine NoPanic.normal ?_
  go_wp2_with (first | ((with_reducible refine gate_box rfl ?_); refine aBx S ?_; clear S; intro g9 w9 z9 S) | ((with_reducible refine gate_alloc rfl ?_); refine aAl S ?_; clear S; intro g9 w9 z9 S) | ((with_reducible refine gate_load rfl ?_); first | refine aLd S ?_ | refine aPt S ?_ | refine aL1 S ?_) | ((with_reducible refine gate_st rfl ?_); (first | refine aS1 S ?_ | refine aSt S ?_ | refine aSp S ?_); clear S; intro w9 S))
  rw [rounds_succ]
  go_wp2_with (first | ((with_reducible refine gate_box rfl ?_); refine aBx S ?_; clear S; intro g9 w9 z9 S) | ((with_reducible refine gate_alloc rfl ?_); refine aAl S ?_; clear S; intro g9 w9 z9 S) | ((with_reducible refine gate_load rfl ?_); first | refine aLd S ?_ | refine aPt S ?_ | refine aL1 S ?_) | ((with_reducible refine gate_st rfl ?_); (first | refine aS1 S ?_ | refine aSt S ?_ | refine aSp S ?_); clear S; intro w9 S))
  go_ret
  exact ⟨_, _, _, _, _, rfl, (S.pull (a := aBox _ 142 2 _) delA).sub subA⟩
@[go_sem] theorem idxPair0 (a b : Option Addr) (w : World) : (Instr.index 140 (.agg #[.pointer a, .pointer b]) (.int .i64 0)).run Try.prog w = .ok (.pointer a) w := by kernel_rfl
@[go_sem] theorem idxPair1 (a b : Option Addr) (w : World) : (Instr.index 140 (.agg #[.pointer a, .pointer b]) (.int .i64 1)).run Try.prog w = .ok (.pointer b) w := by kernel_rfl
set_option maxHeartbeats 3200000 in
theorem world_c (w0 w : World) (L : List Asrt) (g g1 g2 : Nat) (c1 c2 : Ch) (F1 F2 : List Nat) (S : Sep [] w0 (aBox g 142 2 [.pointer (some ⟨g1, 0, none⟩), .pointer (some ⟨g2, 0, none⟩)] :: aLnk g2 c2 F2 :: aLnk g1 c1 F1 :: L) w) (b1 : c1.past.length ≤ 1000000) (b2 : c2.past.length ≤ 1000000) :
    Calls Try.prog 80 #[.pointer (some ⟨g, 0, none⟩)] w fun e w' => ∃ cs F', e = .returned (.agg cs.toArray) ∧ Sep [] w0 (aOwn tWd ⟨[c1, c2]⟩ cs F' :: L) w' := by
  have B1 := Lib.hid b1
  have B2 := Lib.hid b2
  have w1 : IntKind.i64.wrap 1 = 1 := by decide
  have w2 : IntKind.i64.wrap 2 = 2 := by decide
  clear b1 b2
  go_enter Try.func80, Try.ntmps80
  go_wp2_with (first
    | ((with_reducible refine gate_dst (N := 6) rfl ?_); go_loud (refine aMk (d := tCh) (n := 2) zChS S zChS_own (by decide) ?_); clear S; intro gM w9 z9 S; replace S : Sep [] w0 (aRow tCh 33 ([] ++ zChS :: [zChS]) (.slice (some ⟨gM, 0, none⟩) 2 2) [gM] :: _) w9 := S)
    | ((with_reducible refine gate_dst (N := 3) rfl ?_); refine aAl S ?_; clear S; intro gW w9 z9 S)
    | ((with_reducible refine gate_box rfl ?_); refine aBx S ?_; clear S; intro g9 w9 z9 S) | ((with_reducible refine gate_alloc rfl ?_); refine aAl S ?_; clear S; intro g9 w9 z9 S) | ((with_reducible refine gate_load rfl ?_); first | refine aLd S ?_ | refine aPt S ?_ | refine aL1 S ?_) | ((with_reducible refine gate_st rfl ?_); (first | refine aS1 S ?_ | refine aSt S ?_ | refine aSp S ?_); clear S; intro w9 S))
  refine wp_loop_rounds 3 ?_
  rw [rounds_succ]
  go_wp2_with (first | ((with_reducible refine gate_box rfl ?_); refine aBx S ?_; clear S; intro g9 w9 z9 S) | ((with_reducible refine gate_alloc rfl ?_); refine aAl S ?_; clear S; intro g9 w9 z9 S) | ((with_reducible refine gate_load rfl ?_); first | refine aLd S ?_ | refine aPt S ?_ | refine aL1 S ?_) | ((with_reducible refine gate_st rfl ?_); (first | refine aS1 S ?_ | refine aSt S ?_ | refine aSp S ?_); clear S; intro w9 S))
  have S0 := (Sep.only1 (a1 := aBox gW 47 _ _) S delA)
  refine wp_region_noPanic ?_
  refine wp_region_held_drew (S := Sep _ _ _) (by kernel_rfl) S0.drew (fun _ => ?_)
  replace S := S.drew
  clear S0
  refine tk 0 ?_
  (try simp only [Act.put, List.setIfInBounds_toArray, List.set_cons_zero, List.set_cons_succ])
  refine tk 1 ?_
  (try simp only [Act.put, List.setIfInBounds_toArray, List.set_cons_zero, List.set_cons_succ])
  refine tk 2 ?_
  (try simp only [Act.put, List.setIfInBounds_toArray, List.set_cons_zero, List.set_cons_succ])
  refine tk 3 ?_
  (try simp only [Act.put, List.setIfInBounds_toArray, List.set_cons_zero, List.set_cons_succ])
  refine rdy1 4 (fun K hK => ?_)
  go_simp; (skip; go_at_call 65; (with_reducible refine (chain_c _ g1 c1 F1 (S.lnk memA) B1.out).mono ?_); rintro e w9 ⟨cs9, G9, rfl, T9⟩; replace S := S.callLnk1 delA T9; clear T9)
  (first | refine hK.out _ _ (S.sub subA) (fun _ => ?_) | (go_wp2_with fail; refine hK.out _ _ (S.sub subA) (fun _ => ?_)))
  clear hK K
  (try simp only [Act.put, List.setIfInBounds_toArray, List.set_cons_zero, List.set_cons_succ])
  refine tk 5 ?_
  (try simp only [Act.put, List.setIfInBounds_toArray, List.set_cons_zero, List.set_cons_succ])
  refine rdy1 6 (fun K hK => ?_)
  refine rgEl (d := tCh) (A := []) (x0 := zChS) (x := c1) (B := [zChS]) (k := 0) S delA delA rfl ?_; clear S; intro G7 w9 S; replace S := S.pull (a := aRow tCh 33 ([] ++ c1 :: [zChS]) (.slice (some ⟨gM, 0, none⟩) 2 2) G7) delA; rw [show ([] ++ c1 :: [zChS]) = [c1] ++ zChS :: [] from rfl] at S
  (first | refine hK.out _ _ (S.sub subA) (fun _ => ?_) | (go_wp2_with fail; refine hK.out _ _ (S.sub subA) (fun _ => ?_)))
  clear hK K
  (try simp only [Act.put, List.setIfInBounds_toArray, List.set_cons_zero, List.set_cons_succ])
  refine wpAnyH_done (by kernel_rfl) ?_ _
  refine NoPanic.normal ?_
  go_wp2_with (first | ((with_reducible refine gate_box rfl ?_); refine aBx S ?_; clear S; intro g9 w9 z9 S) | ((with_reducible refine gate_alloc rfl ?_); refine aAl S ?_; clear S; intro g9 w9 z9 S) | ((with_reducible refine gate_load rfl ?_); first | refine aLd S ?_ | refine aPt S ?_ | refine aL1 S ?_) | ((with_reducible refine gate_st rfl ?_); (first | refine aS1 S ?_ | refine aSt S ?_ | refine aSp S ?_); clear S; intro w9 S))
  rw [rounds_succ]
  go_wp2_with (first | ((with_reducible refine gate_box rfl ?_); refine aBx S ?_; clear S; intro g9 w9 z9 S) | ((with_reducible refine gate_alloc rfl ?_); refine aAl S ?_; clear S; intro g9 w9 z9 S) | ((with_reducible refine gate_load rfl ?_); first | refine aLd S ?_ | refine aPt S ?_ | refine aL1 S ?_) | ((with_reducible refine gate_st rfl ?_); (first | refine aS1 S ?_ | refine aSt S ?_ | refine aSp S ?_); clear S; intro w9 S))
  have S0 := (Sep.only1 (a1 := aBox gW 47 _ _) S delA)
  refine wp_region_noPanic ?_
  refine wp_region_held_drew (S := Sep _ _ _) (by kernel_rfl) S0.drew (fun _ => ?_)
  replace S := S.drew
  clear S0
  refine tk 0 ?_
  (try simp only [Act.put, List.setIfInBounds_toArray, List.set_cons_zero, List.set_cons_succ])
  refine tk 1 ?_
  (try simp only [Act.put, List.setIfInBounds_toArray, List.set_cons_zero, List.set_cons_succ])
  refine tk 2 ?_
  (try simp only [Act.put, List.setIfInBounds_toArray, List.set_cons_zero, List.set_cons_succ])
  refine tk 3 ?_
  (try simp only [Act.put, List.setIfInBounds_toArray, List.set_cons_zero, List.set_cons_succ])
  refine rdy1 4 (fun K hK => ?_)
  go_simp; (skip; go_at_call 65; (with_reducible refine (chain_c _ g2 c2 F2 (S.lnk memA) B2.out).mono ?_); rintro e w9 ⟨cs9, G9, rfl, T9⟩; replace S := S.callLnk1 delA T9; clear T9)
  (first | refine hK.out _ _ (S.sub subA) (fun _ => ?_) | (go_wp2_with fail; refine hK.out _ _ (S.sub subA) (fun _ => ?_)))
  clear hK K
  (try simp only [Act.put, List.setIfInBounds_toArray, List.set_cons_zero, List.set_cons_succ])
  refine tk 5 ?_
  (try simp only [Act.put, List.setIfInBounds_toArray, List.set_cons_zero, List.set_cons_succ])
  refine rdy1 6 (fun K hK => ?_)
  refine rgEl (d := tCh) (A := [c1]) (x0 := zChS) (x := c2) (B := []) (k := 1) S delA delA rfl ?_; clear S; intro G8 w9 S
  (first | refine hK.out _ _ (S.sub subA) (fun _ => ?_) | (go_wp2_with fail; refine hK.out _ _ (S.sub subA) (fun _ => ?_)))
  clear hK K
  (try simp only [Act.put, List.setIfInBounds_toArray, List.set_cons_zero, List.set_cons_succ])
  refine wpAnyH_done (by kernel_rfl) ?_ _
  refine NoPanic.normal ?_
  go_wp2_with (first | ((with_reducible refine gate_box rfl ?_); refine aBx S ?_; clear S; intro g9 w9 z9 S) | ((with_reducible refine gate_alloc rfl ?_); refine aAl S ?_; clear S; intro g9 w9 z9 S) | ((with_reducible refine gate_load rfl ?_); first | refine aLd S ?_ | refine aPt S ?_ | refine aL1 S ?_) | ((with_reducible refine gate_st rfl ?_); (first | refine aS1 S ?_ | refine aSt S ?_ | refine aSp S ?_); clear S; intro w9 S))
  rw [rounds_succ]
  go_wp2_with (first | ((with_reducible refine gate_box rfl ?_); refine aBx S ?_; clear S; intro g9 w9 z9 S) | ((with_reducible refine gate_alloc rfl ?_); refine aAl S ?_; clear S; intro g9 w9 z9 S) | ((with_reducible refine gate_load rfl ?_); first | refine aLd S ?_ | refine aPt S ?_ | refine aL1 S ?_) | ((with_reducible refine gate_st rfl ?_); (first | refine aS1 S ?_ | refine aSt S ?_ | refine aSp S ?_); clear S; intro w9 S))
  (refine Sep.ret1 S rfl rfl memA Try.underlying47 rfl ts47 rfl ?_)
  replace S := S.pull (a := aRow tCh 33 ([c1] ++ c2 :: []) (.slice (some ⟨gM, 0, none⟩) 2 2) G8) delA
  exact ⟨_, _, rfl, (Sep.shutWd (x := ⟨[c1, c2]⟩) S).sub subA⟩
set_option maxHeartbeats 3200000 in
theorem WorldNew_c (w : World) : Calls Try.prog 28 #[] w (RetOwn tWd newWd w) := by
  have S := Sep.start w
  have HL := Lib.hid newCh_len
  go_enter Try.func28, Try.ntmps28
  go_wp2_with (first
    | (go_at_call 79; (with_reducible refine (pairNew_c _).mono ?_); rintro e w9 ⟨g, g1, g2, F1, F2, rfl, T9⟩; replace S := S.call03 T9; clear T9)
    | (go_at_call 80; go_loud ((with_reducible refine (world_c _ _ _ g g1 g2 (newCh 1) (newCh 2) F1 F2 S (HL.out 1) (HL.out 2)).mono ?_); rintro e w9 ⟨cs9, F9, rfl, T9⟩; replace S := T9; clear T9))
    | ((with_reducible refine gate_box rfl ?_); refine aBx S ?_; clear S; intro g9 w9 z9 S) | ((with_reducible refine gate_alloc rfl ?_); refine aAl S ?_; clear S; intro g9 w9 z9 S) | ((with_reducible refine gate_load rfl ?_); first | refine aLd S ?_ | refine aPt S ?_ | refine aL1 S ?_) | ((with_reducible refine gate_st rfl ?_); (first | refine aS1 S ?_ | refine aSt S ?_ | refine aSp S ?_); clear S; intro w9 S))
  (refine Sep.ret1 S rfl rfl memA Try.underlying47 rfl ts47 rfl ?_)
  exact S.retOwn (d := tWd) (x := ⟨[newCh 1, newCh 2]⟩) memA
set_option maxHeartbeats 3200000 in
theorem sWorldNew_c (w : World) : Calls Try.prog 27 #[] w (RetOwn tWd newWd w) := by
  have S := Sep.start w
  have C1 := Lib.hid (show chNewV 1 = (newCh 1, true) from if_pos (.inl rfl))
  have C2 := Lib.hid (show chNewV 2 = (newCh 2, true) from if_pos (.inr rfl))
  have I1 := Lib.hid (show I64 1 by unfold I64; omega)
  have I2 := Lib.hid (show I64 2 by unfold I64; omega)
  go_enter Try.func27, Try.ntmps27
  go_wp2_with (first
    | (go_at_call 16; (with_reducible refine (sChainNew_e _ 1 I1.out C1.out).mono ?_); rintro e w9 ⟨ca1, Fa1, rfl, h9, n9, b9, f9⟩; replace S := S.new (aOwn tCh _ ca1 Fa1) h9 n9 b9 f9; clear h9 n9 b9 f9; obtain ⟨A1, c1, A2, c2, A3, c3, A4, c4, A5, c5, A6, c6, A7, c7, A8, c8, rfl⟩ := S.shapeCh (c := newCh 1) memA)
    | (go_at_call 16; (with_reducible refine (sChainNew_e _ 2 I2.out C2.out).mono ?_); rintro e w9 ⟨ca2, Fa2, rfl, h9, n9, b9, f9⟩; replace S := S.new (aOwn tCh _ ca2 Fa2) h9 n9 b9 f9; clear h9 n9 b9 f9; obtain ⟨A1, c1, A2, c2, A3, c3, A4, c4, A5, c5, A6, c6, A7, c7, A8, c8, rfl⟩ := S.shapeCh (c := newCh 2) memA)
    | ((with_reducible refine gate_dst (N := 15) rfl ?_); go_loud (refine aLit2 (d := tCh) (x := newCh 1) (y := newCh 2) 33 S delA delA ?_); clear S; intro gM w9 z9 S)
    | ((with_reducible refine gate_box rfl ?_); refine aBx S ?_; clear S; intro g9 w9 z9 S) | ((with_reducible refine gate_alloc rfl ?_); refine aAl S ?_; clear S; intro g9 w9 z9 S) | ((with_reducible refine gate_load rfl ?_); first | refine aLd S ?_ | refine aPt S ?_ | refine aL1 S ?_) | ((with_reducible refine gate_st rfl ?_); (first | refine aS1 S ?_ | refine aSt S ?_ | refine aSp S ?_); clear S; intro w9 S))
  (refine Sep.ret1 S rfl rfl memA Try.underlying47 rfl ts47 rfl ?_)
  replace S := S.pull (a := aRow tCh 33 [newCh 1, newCh 2] _ _) delA
  exact (Sep.shutWd (x := ⟨[newCh 1, newCh 2]⟩) S).retOwn (d := tWd) (x := ⟨[newCh 1, newCh 2]⟩) memA
theorem WorldNew_e (w : World) {x : Wd} (hR : newWd = x) : Calls Try.prog 28 #[] w (RetOwn tWd x w) := hR ▸ WorldNew_c w
theorem sWorldNew_e (w : World) {x : Wd} (hR : newWd = x) : Calls Try.prog 27 #[] w (RetOwn tWd x w) := hR ▸ sWorldNew_c w
theorem newCh_small (id : Int) : SmallCh (newCh id) := by
  refine ⟨⟨?_, ?_⟩, ?_, fun k h => by simp [newCh] at h, ?_, ?_⟩
  all_goals simp [newCh, newBk, newSt, Small, cntMStS]
theorem newWd_small {x : Wd} (hR : newWd = x) : SmallWd x := by
  subst hR
  refine ⟨fun k h => ?_, ?_⟩
  · have hk : k = 0 ∨ k = 1 := by have : k < 2 := h; omega
    rcases hk with rfl | rfl
    · exact newCh_small 1
    · exact newCh_small 2
  · simp [newWd, cntMChS, cntMC1, newCh, newBk, newSt, cntMStS]
end Go.Proofs.Ytapdcgjccckjeaa
namespace Go.Proofs.Ytapdcgjccckjeaa
set_option maxRecDepth 100000
set_option linter.unusedVariables false
set_option linter.unusedSimpArgs false
open Go.RowKit

def tByte : Ty Int where
  sz := 1
  rd := fun _ x cs => cs = [.int .u8 x] ∧ 0 ≤ x ∧ x ≤ 255
  own := fun _ x cs F => (cs = [.int .u8 x] ∧ 0 ≤ x ∧ x ≤ 255) ∧ F = []
  len := fun h => by rw [h.1]; rfl
  fr := fun _ h => h
  own_rd := fun h => h.1
  own_lt := fun h g hg => by rw [h.2] at hg; cases hg
  keep := fun h _ => h
  one := fun h u hu => by rw [h.1.1] at hu; rw [List.mem_singleton.1 hu]; rfl
theorem row_byte_at {w : World} {A : Option Addr} {n c : Nat} {xs : List Int} (h : tByte.row w (.slice A n c) xs) (k : Nat) (hk : k < xs.length) : ∃ ad, A = some ad ∧ w.cell? (ad.add k) = some (.int .u8 xs[k]) ∧ 0 ≤ xs[k] ∧ xs[k] ≤ 255 := by
  obtain ⟨A', c', e, h1, h2, h3⟩ := h
  obtain ⟨ad, cs, e1, hr, hc⟩ := h3 k hk
  cases e
  subst e1
  obtain ⟨h5, h6, h7⟩ : cs = [.int .u8 xs[k]] ∧ 0 ≤ xs[k] ∧ xs[k] ≤ 255 := hr
  subst h5
  refine ⟨ad, rfl, ?_, h6, h7⟩
  simpa [tByte] using hc 0 Nat.zero_lt_one
theorem xor_nat (a b : Nat) (ha : a < 1000000000000) (hb : b < 1000000000000) : ∃ c : Nat, bits .xor .i64 (a : Int) (b : Int) = (c : Int) := by
  have hx : a ^^^ b < 2 ^ 62 := Nat.xor_lt_two_pow (by omega) (by omega)
  have h1 : (BitVec.ofInt 64 (a : Int)).toNat = a := by
    rw [BitVec.ofInt_natCast, BitVec.toNat_ofNat]; exact Nat.mod_eq_of_lt (by omega)
  have h2 : (BitVec.ofInt 64 (b : Int)).toNat = b := by
    rw [BitVec.ofInt_natCast, BitVec.toNat_ofNat]; exact Nat.mod_eq_of_lt (by omega)
  refine ⟨a ^^^ b, ?_⟩
  show IntKind.i64.wrap ((BitVec.ofInt 64 (a : Int) ^^^ BitVec.ofInt 64 (b : Int)).toNat : Int) = _
  rw [BitVec.toNat_xor, h1, h2, IntWalk.i64_in]
  omega
/-- The number that is drawn past the code's end. -/
theorem pick_num (E D n : Int) (h1 : 0 ≤ E) (h2 : E ≤ 100000000000) (h3 : 0 ≤ D) (h4 : D ≤ 1000000) (hn : 1 ≤ n) :
    0 ≤ (bits .xor .i64 (wrap64 (E + wrap64 (wrap64 D * 53))) (wrap64 ((wrap64 (E + wrap64 (wrap64 D * 53))).tdiv 64))).tmod n ∧
      (bits .xor .i64 (wrap64 (E + wrap64 (wrap64 D * 53))) (wrap64 ((wrap64 (E + wrap64 (wrap64 D * 53))).tdiv 64))).tmod n < n := by
  rw [IntWalk.wrap64_in D (by omega), IntWalk.wrap64_in (D * 53) (by omega), IntWalk.wrap64_in (E + D * 53) (by omega)]
  obtain ⟨X, hX⟩ : ∃ X : Nat, E + D * 53 = (X : Int) := ⟨(E + D * 53).toNat, by omega⟩
  rw [hX]
  have hd : ((X : Int).tdiv 64) = ((X / 64 : Nat) : Int) := by
    rw [Int.tdiv_eq_ediv_of_nonneg (by omega)]
    omega
  rw [hd, IntWalk.wrap64_in _ (by omega)]
  obtain ⟨c, hc⟩ := xor_nat X (X / 64) (by omega) (by omega)
  rw [hc, Int.tmod_eq_emod_of_nonneg (by omega)]
  exact ⟨Int.emod_nonneg _ (by omega), Int.emod_lt_of_pos _ (by omega)⟩
/-- A draw's end. -/
def Picked (g : Nat) (v : Value) (p : Nat) (n : Int) (w : World) : Ending → World → Prop := fun e w' => ∃ x : Int, e = .returned (.int .i64 x) ∧ 0 ≤ x ∧ x < n ∧ Box w' g 133 #[v, .int .i64 (p + 1 : Nat)] ∧ Chg [g] w w'
theorem size133 : (Try.prog.info? 133).map (·.size) = some 2 := by kernel_rfl
theorem dsize3 : (Try.prog.info? 3).map (·.size) = some 1 := by kernel_rfl
set_option maxHeartbeats 1600000 in
theorem pick_c (w0 w : World) (g : Nat) (v : Value) (bs : List Int) (p : Nat) (n : Int) (k1 : Box w g 133 #[v, .int .i64 p]) (f0 : Fr w0 w) (hg : w0.heap.size ≤ g) (hr : tByte.row w0 v bs) (hl : bs.length ≤ 2000) (hp : p ≤ 1000000) (hn : 1 ≤ n) (hn2 : n ≤ 1000000) :
    Calls Try.prog 60 #[.pointer (some ⟨g, 0, none⟩), .int .i64 n] w (Picked g v p n w) := by
  obtain ⟨A1, c1, rfl⟩ := hr.val
  have hm := hr.le
  have r_k1 := k1.cells
  by_cases h0 : bs.length = 0
  · go_enter Try.func60, Try.ntmps60
    go_wp2_with ((with_reducible refine gate_store (p := 14) rfl ?_); refine wpList_bstore1 k1 rfl _ _ _ rfl 1 rfl (.int .i64 (p + 1 : Nat)) (by first | rfl | (go_simp; omega)) rfl dsize3 (by simp) #[.slice A1 bs.length c1, .int .i64 (p + 1 : Nat)] rfl ?_; intro w9 k9 c9; clear r_k1; have r_k1 := k9.cells; have f9 := f0.own c9 (fun q hq => by rw [List.mem_singleton.1 hq]; exact hg))
    go_ret
    exact ⟨0, rfl, by omega, by omega, k9, c9⟩
  · have hnz : ((bs.length : Int) == 0) = false := by simp; exact fun h => h0 (by simp [h])
    have hnn : decide (n < 1) = false := decide_eq_false (by omega)
    by_cases h1 : p < bs.length
    · obtain ⟨ad, rfl, hc, x0, x1⟩ := row_byte_at hr p h1
      go_enter Try.func60, Try.ntmps60
      go_wp2_with ((with_reducible refine gate_store (p := 14) rfl ?_); refine wpList_bstore1 k1 rfl _ _ _ rfl 1 rfl (.int .i64 (p + 1 : Nat)) (by first | rfl | (go_simp; omega)) rfl dsize3 (by simp) #[.slice (some ad) bs.length c1, .int .i64 (p + 1 : Nat)] rfl ?_; intro w9 k9 c9; clear r_k1; have r_k1 := k9.cells; have f9 := f0.own c9 (fun q hq => by rw [List.mem_singleton.1 hq]; exact hg); have hc9 := f9.cell hc)
      go_ret
      exact ⟨bs[p] % n, rfl, Int.emod_nonneg _ (by omega), Int.emod_lt_of_pos _ (by omega), k9, c9⟩
    · go_enter Try.func60, Try.ntmps60
      have q1 : p % bs.length < bs.length := Nat.mod_lt _ (by omega)
      have q2 : (p * 7 + 3) % bs.length < bs.length := Nat.mod_lt _ (by omega)
      obtain ⟨ad, rfl, hc1, x0, x1⟩ := row_byte_at hr _ q1
      obtain ⟨ad', e', hc2, y0, y1⟩ := row_byte_at hr _ q2
      cases e'
      have i1 : 0 ≤ (p : Int) % (bs.length : Int) := Int.emod_nonneg _ (by omega)
      have i2 : (p : Int) % (bs.length : Int) < bs.length := Int.emod_lt_of_pos _ (by omega)
      have i3 : ((p : Int) % (bs.length : Int)).toNat = p % bs.length := by rw [← Int.natCast_emod]; exact Int.toNat_natCast _
      have j1 : 0 ≤ ((p : Int) * 7 + 3) % (bs.length : Int) := Int.emod_nonneg _ (by omega)
      have j2 : ((p : Int) * 7 + 3) % (bs.length : Int) < bs.length := Int.emod_lt_of_pos _ (by omega)
      have j3 : (((p : Int) * 7 + 3) % (bs.length : Int)).toNat = (p * 7 + 3) % bs.length := by rw [show ((p : Int) * 7 + 3) = ((p * 7 + 3 : Nat) : Int) by omega, ← Int.natCast_emod]; exact Int.toNat_natCast _
      generalize bs[p % bs.length] = b1 at *
      generalize bs[(p * 7 + 3) % bs.length] = b2 at *
      go_wp2_with ((with_reducible refine gate_store (p := 14) rfl ?_); refine wpList_bstore1 k1 rfl _ _ _ rfl 1 rfl (.int .i64 (p + 1 : Nat)) (by first | rfl | (go_simp; omega)) rfl dsize3 (by simp) #[.slice (some ad) bs.length c1, .int .i64 (p + 1 : Nat)] rfl ?_; intro w9 k9 c9; clear r_k1; have r_k1 := k9.cells; have f9 := f0.own c9 (fun q hq => by rw [List.mem_singleton.1 hq]; exact hg); have hd1 := f9.cell hc1; have hd2 := f9.cell hc2)
      go_quiet (fail)
      go_wp2
      go_ret
      have hD1 : 0 ≤ (p : Int) / (bs.length : Int) := Int.ediv_nonneg (by omega) (by omega)
      have hD2 : (p : Int) / (bs.length : Int) ≤ 1000000 := by
        have := Int.ediv_le_self (bs.length : Int) (show 0 ≤ (p : Int) by omega)
        omega
      obtain ⟨u1, u2⟩ := pick_num (b1 * 131 + b2 * 1117 + (p : Int) * 29) ((p : Int) / (bs.length : Int)) n (by omega) (by omega) hD1 hD2 hn
      exact ⟨_, rfl, u1, u2, ⟨k9.blk⟩, c9.drewN _⟩
end Go.Proofs.Ytapdcgjccckjeaa
namespace Go.Proofs.Ytapdcgjccckjeaa
set_option maxRecDepth 100000
set_option linter.unusedVariables false
set_option linter.unusedSimpArgs false
open Go.RowKit
/-- A reader is opened. -/
def Opened (w : World) : Ending → World → Prop := fun e w' => ∃ g v bs, e = .returned (.pointer (some ⟨g, 0, none⟩)) ∧ w.heap.size ≤ g ∧ Box w' g 133 #[v, .int .i64 (0 : Nat)] ∧ tByte.row w v bs ∧ bs.length ≤ 2000 ∧ Fr w w'
theorem row_take {α : Type} {d : Ty α} {w : World} {A : Option Addr} {n c : Nat} {xs : List α} (h : d.row w (.slice A n c) xs) (k : Nat) (hk : k ≤ xs.length) : d.row w (.slice A k c) (xs.take k) := by
  obtain ⟨A', c', e, ⟨h1, h0⟩, h2, h3⟩ := h
  simp only [Value.slice.injEq] at e
  obtain ⟨rfl, rfl, rfl⟩ := e
  refine ⟨A, c, by rw [List.length_take]; congr 1; omega, ⟨by rw [List.length_take]; omega, h0⟩, by rw [List.length_take]; omega, fun i hi => ?_⟩
  have hi2 : i < xs.length := by rw [List.length_take] at hi; omega
  rw [List.getElem_take]
  exact h3 i hi2
theorem drow_le {α : Type} {d : Ty α} {w : World} {A : Option Addr} {n c : Nat} {xs : List α} (h : d.row w (.slice A n c) xs) : n = xs.length ∧ n ≤ c := by
  obtain ⟨A', c', e, h1, h2, h3⟩ := h
  simp only [Value.slice.injEq] at e
  obtain ⟨rfl, rfl, rfl⟩ := e
  exact ⟨rfl, h1.1⟩
set_option maxHeartbeats 1600000 in
theorem l6Open_c (w : World) (v : Value) (bs : List Int) (hr : tByte.row w v bs) : Calls Try.prog 59 #[v] w (Opened w) := by
  obtain ⟨A1, c1, rfl⟩ := hr.val
  have hm := hr.le
  have hcap := (drow_le hr).2
  by_cases h0 : 2000 < bs.length
  · obtain ⟨ad, rfl, _⟩ := row_byte_at hr 0 (by omega)
    go_enter Try.func59, Try.ntmps59
    go_wp2_with ((with_reducible refine gate_dst (N := 10) rfl ?_); refine wpList_box rfl _ _ rfl #[.slice (some ad) 2000 c1, .int .i64 (0 : Nat)] rfl ?_; intro g w9 hg k f9)
    go_ret
    exact ⟨g, _, bs.take 2000, rfl, hg, k, row_take hr 2000 (by omega), by rw [List.length_take]; omega, f9⟩
  · go_enter Try.func59, Try.ntmps59
    go_wp2_with ((with_reducible refine gate_dst (N := 10) rfl ?_); refine wpList_box rfl _ _ rfl #[.slice A1 bs.length c1, .int .i64 (0 : Nat)] rfl ?_; intro g w9 hg k f9)
    go_ret
    exact ⟨g, _, bs, rfl, hg, k, hr, by omega, f9⟩
end Go.Proofs.Ytapdcgjccckjeaa
