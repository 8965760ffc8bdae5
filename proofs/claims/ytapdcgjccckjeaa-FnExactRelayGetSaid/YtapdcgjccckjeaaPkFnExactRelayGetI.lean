/- The texts RelG, RelH, RelI, ChHelp, RelJ, RelK, RelL, RelM, RelN, RelO. -/
import Derived.Test.YtapdcgjccckjeaaPkFnExactRelayGetH
namespace Go.Proofs.Ytapdcgjccckjeaa
set_option maxRecDepth 100000
set_option linter.unusedVariables false
set_option linter.unusedSimpArgs false
open Go.RowKit
theorem settled_mine {c : Ch} (hc : okSt c.st = true) {n : Int} {r : Bool} (h : mineV c n = r) : (settled c.st n != 1) = !r := by
  subst h
  have ll := okSt_len hc
  unfold settled mineV
  by_cases e : 1 ≤ n ∧ n ≤ (c.st.sent.length : Int)
  · rw [if_pos ⟨hc, e.1, e.2⟩, decide_eq_true e, Bool.true_and]
    cases c.st.live.getD (n - 1).toNat false with
    | true => rfl
    | false => cases c.st.back.getD (n - 1).toNat false <;> rfl
  · rw [if_neg (fun h => e ⟨h.2.1, h.2.2⟩), decide_eq_false e, Bool.false_and]
    rfl
theorem Sep.pkCell {F0 : List Nat} {w0 W : World} {L : List Asrt} {e g n cap : Nat} {xs : List Pk} {F : List Nat} (S : Sep F0 w0 L W) (h : aRow tPk e xs (.slice (some ⟨g, 0, none⟩) n cap) F ∈ L) (m : Nat) (hm : m < xs.length) {p : Pk} (hp : xs[m] = p) : W.cell? ⟨g, m * 7 + 5, none⟩ = some (.int .i64 p.til) := by
  obtain ⟨a9, cs, e9, r9, g9⟩ := cellsAt_of_row (S.row h).row m hm
  cases e9
  rw [hp] at r9
  cases tPk_cells r9
  have := g9.at_ 5 rfl
  rw [addr_add] at this
  exact this

theorem fateAt_0 (w : World) (s : St) (c0 : List Value) (h1 : tSt.rd w s c0) (k : Nat) (hk : k < s.got.length) (h8 : s.got.length = 8) (hg : s.got[k] = 0) : Calls Try.prog 153 #[.agg c0.toArray, .int .i64 ((k : Int) + 1)] w (Ret (.iface 173 (.agg #[])) w) := by
  have := fateAt_c w s c0 h1 k hk h8
  rw [hg] at this
  exact this
theorem fateAt_1 (w : World) (s : St) (c0 : List Value) (h1 : tSt.rd w s c0) (k : Nat) (hk : k < s.got.length) (h8 : s.got.length = 8) (hg : s.got[k] = 1) : Calls Try.prog 153 #[.agg c0.toArray, .int .i64 ((k : Int) + 1)] w (Ret (.iface 174 (.agg #[])) w) := by
  have := fateAt_c w s c0 h1 k hk h8
  rw [hg] at this
  exact this
theorem fateAt_2 (w : World) (s : St) (c0 : List Value) (h1 : tSt.rd w s c0) (k : Nat) (hk : k < s.got.length) (h8 : s.got.length = 8) (hg : s.got[k] = 2) : Calls Try.prog 153 #[.agg c0.toArray, .int .i64 ((k : Int) + 1)] w (Ret (.iface 175 (.agg #[])) w) := by
  have := fateAt_c w s c0 h1 k hk h8
  rw [hg] at this
  exact this
set_option maxHeartbeats 6400000 in
theorem mayLate_c (w0 w : World) (L : List Asrt) (g : Nat) (c : Ch) (F : List Nat) (S : Sep [] w0 (aLnk g c F :: L) w) (hc : okCh c = true) (s : St) (v1 v2 v3 v4 : Value) (h2 : tSt.rd w0 s [.int .i64 s.way, .int .i64 s.vsn, .int .i64 s.want, v1, v2, v3, v4]) (hs : okSt s = true) (h n : Int) (bn : I64 n) :
    Calls Try.prog 136 #[.pointer (some ⟨g, 0, none⟩), .agg #[.int .i64 s.way, .int .i64 s.vsn, .int .i64 s.want, v1, v2, v3, v4, .int .i64 h], .int .i64 n] w fun e w' => e = .returned (.bool (lateOk c s h n)) ∧ ∃ F', Sep [] w0 (aLnk g c F' :: L) w' := by
  obtain ⟨t1, t2, t3, t4, _⟩ := tSt_rows h2
  obtain ⟨D1, l1, rfl⟩ := t1.val
  obtain ⟨D2, l2, rfl⟩ := t2.val
  obtain ⟨D3, l3, rfl⟩ := t3.val
  obtain ⟨D4, l4, rfl⟩ := t4.val
  obtain ⟨A1, m1, A2, m2, B1, n1, B2, n2, B3, n3, B4, n4, q, A5, m5, Y1, Y2, Z1, Z2, Z3, Z4, M1, K1, I9, J9, h15, S9⟩ := S.openLnk
  replace S := S9
  clear S9
  have q3 := (okCh_parts hc).2.2.1
  have ll := okSt_len q3
  have lg := (okSt_len hs).2.2.2
  cases hm : mineV c n with
  | false =>
    have E := Lib.hid (show lateOk c s h n = false by unfold lateOk; rw [hm]; rfl)
    have d1 : (settled c.st n != 1) = true := settled_mine q3 hm
    clear hm hc ll lg q3 hs
    go_enter Try.func136, Try.ntmps136
    go_wp2_with (first | ((with_reducible refine gate_box rfl ?_); refine aBx S ?_; clear S; intro g9 w9 z9 S) | ((with_reducible refine gate_alloc rfl ?_); refine aAl S ?_; clear S; intro g9 w9 z9 S) | ((with_reducible refine gate_load rfl ?_); first | refine aLd S ?_ | refine aPt S ?_ | refine aL1 S ?_) | ((with_reducible refine gate_st rfl ?_); (first | refine aS1 S ?_ | refine aSt S ?_ | refine aSp S ?_); clear S; intro w9 S))
    have S0 := S
    refine wp_region_noPanic ?_
    refine wp_region_held_drew (S := Sep _ _ _) (by kernel_rfl) S0.drew (fun _ => ?_)
    replace S := S.drew
    clear S0
    refine tk 0 ?_
    (try simp only [Act.put, List.setIfInBounds_toArray, List.set_cons_zero, List.set_cons_succ])
    refine tk 1 ?_
    (try simp only [Act.put, List.setIfInBounds_toArray, List.set_cons_zero, List.set_cons_succ])
    refine tk 2 ?_
    (try simp only [Act.put, List.setIfInBounds_toArray, List.set_cons_zero, List.set_cons_succ])
    refine tk 3 ?_
    (try simp only [Act.put, List.setIfInBounds_toArray, List.set_cons_zero, List.set_cons_succ])
    refine tk 4 ?_
    (try simp only [Act.put, List.setIfInBounds_toArray, List.set_cons_zero, List.set_cons_succ])
    refine rdy1 5 (fun K hK => ?_)
    go_simp; (skip; go_at_call 152; (with_reducible refine (StateSettled_c _ c.st _ (tSt_mk (S.row (d := tPk) (xs := c.st.sent) (F := Z1) (e := 88) memA).row (S.row (d := tBool) (xs := c.st.live) (F := Z2) (e := 4) memA).row (S.row (d := tBool) (xs := c.st.back) (F := Z3) (e := 4) memA).row (S.row (d := tInt) (xs := c.st.got) (F := Z4) (e := 3) memA).row J9) n).mono ?_); rintro e w9 ⟨rfl, f9⟩; replace S := S.fr f9; clear f9)
    (first | refine hK.out _ _ (S.sub subA) (fun _ => ?_) | (go_wp2_with fail; refine hK.out _ _ (S.sub subA) (fun _ => ?_)))
    clear hK K
    (try simp only [Act.put, List.setIfInBounds_toArray, List.set_cons_zero, List.set_cons_succ])
    refine tk 6 ?_
    (try simp only [Act.put, List.setIfInBounds_toArray, List.set_cons_zero, List.set_cons_succ])
    refine tk 7 ?_
    (try simp only [Act.put, List.setIfInBounds_toArray, List.set_cons_zero, List.set_cons_succ])
    refine tk 8 ?_
    (try simp only [Act.put, List.setIfInBounds_toArray, List.set_cons_zero, List.set_cons_succ])
    refine tk 9 ?_
    (try simp only [Act.put, List.setIfInBounds_toArray, List.set_cons_zero, List.set_cons_succ])
    refine tk 10 ?_
    (try simp only [Act.put, List.setIfInBounds_toArray, List.set_cons_zero, List.set_cons_succ])
    refine tk 11 ?_
    (try simp only [Act.put, List.setIfInBounds_toArray, List.set_cons_zero, List.set_cons_succ])
    refine tk 12 ?_
    (try simp only [Act.put, List.setIfInBounds_toArray, List.set_cons_zero, List.set_cons_succ])
    refine tk 13 ?_
    (try simp only [Act.put, List.setIfInBounds_toArray, List.set_cons_zero, List.set_cons_succ])
    refine tk 14 ?_
    (try simp only [Act.put, List.setIfInBounds_toArray, List.set_cons_zero, List.set_cons_succ])
    refine tk 15 ?_
    (try simp only [Act.put, List.setIfInBounds_toArray, List.set_cons_zero, List.set_cons_succ])
    refine tk 16 ?_
    (try simp only [Act.put, List.setIfInBounds_toArray, List.set_cons_zero, List.set_cons_succ])
    refine tk 17 ?_
    (try simp only [Act.put, List.setIfInBounds_toArray, List.set_cons_zero, List.set_cons_succ])
    refine tk 18 ?_
    (try simp only [Act.put, List.setIfInBounds_toArray, List.set_cons_zero, List.set_cons_succ])
    refine tk 19 ?_ (hy := by (refine Or.inr ⟨by rfl, ?_⟩; rfl))
    (try simp only [Act.put, List.setIfInBounds_toArray, List.set_cons_zero, List.set_cons_succ])
    refine tk 20 ?_
    (try simp only [Act.put, List.setIfInBounds_toArray, List.set_cons_zero, List.set_cons_succ])
    refine tk 21 ?_
    (try simp only [Act.put, List.setIfInBounds_toArray, List.set_cons_zero, List.set_cons_succ])
    refine wpAnyH_done (by kernel_rfl) ?_ _
    refine NoPanic.normal ?_
    go_wp2_with (first | ((with_reducible refine gate_box rfl ?_); refine aBx S ?_; clear S; intro g9 w9 z9 S) | ((with_reducible refine gate_alloc rfl ?_); refine aAl S ?_; clear S; intro g9 w9 z9 S) | ((with_reducible refine gate_load rfl ?_); first | refine aLd S ?_ | refine aPt S ?_ | refine aL1 S ?_) | ((with_reducible refine gate_st rfl ?_); (first | refine aS1 S ?_ | refine aSt S ?_ | refine aSp S ?_); clear S; intro w9 S))
    go_ret
    rw [E.out]
    exact ⟨rfl, _, (S.allLnk c I9 J9 h15).sub subA⟩
  | true =>
  obtain ⟨g6, r6, e6⟩ := (S.row (d := tPk) (xs := c.st.sent) (F := Z1) (e := 88) memA).shape (by have := mineV_in hm; omega)
  simp only [Value.slice.injEq, true_and] at e6
  obtain ⟨rfl, rfl⟩ := e6
  have d1 : (settled c.st n != 1) = false := settled_mine q3 hm
  have hin := mineV_in hm
  obtain ⟨m, rfl⟩ : ∃ m : Nat, n = (m : Int) + 1 := ⟨(n - 1).toNat, by omega⟩
  have hlt : m < c.st.sent.length := by omega
  have hl4 : m < s.got.length := by omega
  obtain ⟨p, hp⟩ : ∃ p, c.st.sent[m] = p := ⟨_, rfl⟩
  have PA := Lib.hid (show pkAt c ((m : Int) + 1) = p by unfold pkAt; rw [show ((m : Int) + 1 - 1).toNat = m by omega, List.getD_eq_getElem?_getD, List.getElem?_eq_getElem hlt]; exact hp)
  obtain ⟨gv, hgv⟩ : ∃ gv, s.got[m] = gv := ⟨_, rfl⟩
  have GA := Lib.hid (show s.got.getD ((m : Int) + 1 - 1).toNat 0 = gv by rw [show ((m : Int) + 1 - 1).toNat = m by omega, List.getD_eq_getElem?_getD, List.getElem?_eq_getElem hl4]; exact hgv)
  have LV := Lib.hid (show lateOk c s h ((m : Int) + 1) = (decide (p.til ≤ h) && decide (gv = 0)) by unfold lateOk; rw [hm, PA.out, GA.out, Bool.true_and])
  have OG := okSt_got hs m hl4
  rw [hgv] at OG
  have HL := Lib.hid hlt
  have HP := Lib.hid (show c.st.sent[m]'HL.out = p from hp)
  have H2 := Lib.hid h2
  have H4 := Lib.hid hl4
  have H8 := Lib.hid lg
  have p0 : (0 : Int) ≤ (m : Int) := Int.natCast_nonneg _
  have p1 : (m : Int) < (c.st.sent.length : Int) := by omega
  have w1 : IntKind.i64.wrap ((m : Int) + 1 - 1) = (m : Int) := by rw [Int.add_sub_cancel]; exact IntWalk.i64_in _ (by omega)
  have w2 : IntKind.i64.wrap (m : Int) = (m : Int) := IntWalk.i64_in _ (by omega)
  clear hp hin h2 hc hs ll lg q3 hm
  by_cases e1 : p.til ≤ h
  case neg =>
    have E := Lib.hid (show lateOk c s h ((m : Int) + 1) = false by rw [LV.out, decide_eq_false e1]; rfl)
    have d3 : decide (h < p.til) = true := decide_eq_true (by omega)
    clear e1 OG hgv
    go_enter Try.func136, Try.ntmps136
    go_wp2_with (first | ((with_reducible refine gate_box rfl ?_); refine aBx S ?_; clear S; intro g9 w9 z9 S) | ((with_reducible refine gate_alloc rfl ?_); refine aAl S ?_; clear S; intro g9 w9 z9 S) | ((with_reducible refine gate_load rfl ?_); first | refine aLd S ?_ | refine aPt S ?_ | refine aL1 S ?_) | ((with_reducible refine gate_st rfl ?_); (first | refine aS1 S ?_ | refine aSt S ?_ | refine aSp S ?_); clear S; intro w9 S))
    have S0 := S
    refine wp_region_noPanic ?_
    refine wp_region_held_drew (S := Sep _ _ _) (by kernel_rfl) S0.drew (fun _ => ?_)
    replace S := S.drew
    clear S0
    refine tk 0 ?_
    (try simp only [Act.put, List.setIfInBounds_toArray, List.set_cons_zero, List.set_cons_succ])
    refine tk 1 ?_
    (try simp only [Act.put, List.setIfInBounds_toArray, List.set_cons_zero, List.set_cons_succ])
    refine tk 2 ?_
    (try simp only [Act.put, List.setIfInBounds_toArray, List.set_cons_zero, List.set_cons_succ])
    refine tk 3 ?_
    (try simp only [Act.put, List.setIfInBounds_toArray, List.set_cons_zero, List.set_cons_succ])
    refine tk 4 ?_
    (try simp only [Act.put, List.setIfInBounds_toArray, List.set_cons_zero, List.set_cons_succ])
    refine rdy1 5 (fun K hK => ?_)
    go_simp; (skip; go_at_call 152; (with_reducible refine (StateSettled_c _ c.st _ (tSt_mk (S.row (d := tPk) (xs := c.st.sent) (F := Z1) (e := 88) memA).row (S.row (d := tBool) (xs := c.st.live) (F := Z2) (e := 4) memA).row (S.row (d := tBool) (xs := c.st.back) (F := Z3) (e := 4) memA).row (S.row (d := tInt) (xs := c.st.got) (F := Z4) (e := 3) memA).row J9) ((m : Int) + 1)).mono ?_); rintro e w9 ⟨rfl, f9⟩; replace S := S.fr f9; clear f9)
    (first | refine hK.out _ _ (S.sub subA) (fun _ => ?_) | (go_wp2_with fail; refine hK.out _ _ (S.sub subA) (fun _ => ?_)))
    clear hK K
    (try simp only [Act.put, List.setIfInBounds_toArray, List.set_cons_zero, List.set_cons_succ])
    refine tk 6 ?_
    (try simp only [Act.put, List.setIfInBounds_toArray, List.set_cons_zero, List.set_cons_succ])
    refine tk 7 ?_
    (try simp only [Act.put, List.setIfInBounds_toArray, List.set_cons_zero, List.set_cons_succ])
    refine tk 8 ?_
    (try simp only [Act.put, List.setIfInBounds_toArray, List.set_cons_zero, List.set_cons_succ])
    refine tk 9 ?_
    (try simp only [Act.put, List.setIfInBounds_toArray, List.set_cons_zero, List.set_cons_succ])
    refine tk 10 ?_
    (try simp only [Act.put, List.setIfInBounds_toArray, List.set_cons_zero, List.set_cons_succ])
    refine tk 11 ?_
    (try simp only [Act.put, List.setIfInBounds_toArray, List.set_cons_zero, List.set_cons_succ])
    refine tk 12 ?_
    (try simp only [Act.put, List.setIfInBounds_toArray, List.set_cons_zero, List.set_cons_succ])
    refine tk 13 ?_
    (try simp only [Act.put, List.setIfInBounds_toArray, List.set_cons_zero, List.set_cons_succ])
    refine tk 14 ?_
    (try simp only [Act.put, List.setIfInBounds_toArray, List.set_cons_zero, List.set_cons_succ])
    refine tk 15 ?_
    (try simp only [Act.put, List.setIfInBounds_toArray, List.set_cons_zero, List.set_cons_succ])
    refine tk 16 ?_
    (try simp only [Act.put, List.setIfInBounds_toArray, List.set_cons_zero, List.set_cons_succ])
    refine tk 17 ?_
    (try simp only [Act.put, List.setIfInBounds_toArray, List.set_cons_zero, List.set_cons_succ])
    refine tk 18 ?_
    (try simp only [Act.put, List.setIfInBounds_toArray, List.set_cons_zero, List.set_cons_succ])
    refine tk 19 ?_ (hy := by exact yRc (fun w' h => h.pkCell memA m HL.out HP.out))
    (try simp only [Act.put, List.setIfInBounds_toArray, List.set_cons_zero, List.set_cons_succ])
    refine tk 20 ?_
    (try simp only [Act.put, List.setIfInBounds_toArray, List.set_cons_zero, List.set_cons_succ])
    refine tk 21 ?_
    (try simp only [Act.put, List.setIfInBounds_toArray, List.set_cons_zero, List.set_cons_succ])
    refine wpAnyH_done (by kernel_rfl) ?_ _
    refine NoPanic.normal ?_
    go_wp2_with (first | ((with_reducible refine gate_box rfl ?_); refine aBx S ?_; clear S; intro g9 w9 z9 S) | ((with_reducible refine gate_alloc rfl ?_); refine aAl S ?_; clear S; intro g9 w9 z9 S) | ((with_reducible refine gate_load rfl ?_); first | refine aLd S ?_ | refine aPt S ?_ | refine aL1 S ?_) | ((with_reducible refine gate_st rfl ?_); (first | refine aS1 S ?_ | refine aSt S ?_ | refine aSp S ?_); clear S; intro w9 S))
    go_ret
    rw [E.out]
    exact ⟨rfl, _, (S.allLnk c I9 J9 h15).sub subA⟩
  have d3 : decide (h < p.til) = false := decide_eq_false (by omega)
  rcases (by omega : gv = 0 ∨ gv = 1 ∨ gv = 2) with rfl | rfl | rfl
  · have HG := Lib.hid (show s.got[m]'H4.out = 0 from hgv)
    have E := Lib.hid (show lateOk c s h ((m : Int) + 1) = true by rw [LV.out, decide_eq_true e1]; rfl)
    clear e1 OG hgv
    go_enter Try.func136, Try.ntmps136
    go_wp2_with (first | ((with_reducible refine gate_box rfl ?_); refine aBx S ?_; clear S; intro g9 w9 z9 S) | ((with_reducible refine gate_alloc rfl ?_); refine aAl S ?_; clear S; intro g9 w9 z9 S) | ((with_reducible refine gate_load rfl ?_); first | refine aLd S ?_ | refine aPt S ?_ | refine aL1 S ?_) | ((with_reducible refine gate_st rfl ?_); (first | refine aS1 S ?_ | refine aSt S ?_ | refine aSp S ?_); clear S; intro w9 S))
    have S0 := S
    refine wp_region_noPanic ?_
    refine wp_region_held_drew (S := Sep _ _ _) (by kernel_rfl) S0.drew (fun _ => ?_)
    replace S := S.drew
    clear S0
    refine tk 0 ?_
    (try simp only [Act.put, List.setIfInBounds_toArray, List.set_cons_zero, List.set_cons_succ])
    refine tk 1 ?_
    (try simp only [Act.put, List.setIfInBounds_toArray, List.set_cons_zero, List.set_cons_succ])
    refine tk 2 ?_
    (try simp only [Act.put, List.setIfInBounds_toArray, List.set_cons_zero, List.set_cons_succ])
    refine tk 3 ?_
    (try simp only [Act.put, List.setIfInBounds_toArray, List.set_cons_zero, List.set_cons_succ])
    refine tk 4 ?_
    (try simp only [Act.put, List.setIfInBounds_toArray, List.set_cons_zero, List.set_cons_succ])
    refine rdy1 5 (fun K hK => ?_)
    go_simp; (skip; go_at_call 152; (with_reducible refine (StateSettled_c _ c.st _ (tSt_mk (S.row (d := tPk) (xs := c.st.sent) (F := Z1) (e := 88) memA).row (S.row (d := tBool) (xs := c.st.live) (F := Z2) (e := 4) memA).row (S.row (d := tBool) (xs := c.st.back) (F := Z3) (e := 4) memA).row (S.row (d := tInt) (xs := c.st.got) (F := Z4) (e := 3) memA).row J9) ((m : Int) + 1)).mono ?_); rintro e w9 ⟨rfl, f9⟩; replace S := S.fr f9; clear f9)
    (first | refine hK.out _ _ (S.sub subA) (fun _ => ?_) | (go_wp2_with fail; refine hK.out _ _ (S.sub subA) (fun _ => ?_)))
    clear hK K
    (try simp only [Act.put, List.setIfInBounds_toArray, List.set_cons_zero, List.set_cons_succ])
    refine tk 6 ?_
    (try simp only [Act.put, List.setIfInBounds_toArray, List.set_cons_zero, List.set_cons_succ])
    refine tk 7 ?_
    (try simp only [Act.put, List.setIfInBounds_toArray, List.set_cons_zero, List.set_cons_succ])
    refine tk 8 ?_
    (try simp only [Act.put, List.setIfInBounds_toArray, List.set_cons_zero, List.set_cons_succ])
    refine tk 9 ?_
    (try simp only [Act.put, List.setIfInBounds_toArray, List.set_cons_zero, List.set_cons_succ])
    refine tk 10 ?_
    (try simp only [Act.put, List.setIfInBounds_toArray, List.set_cons_zero, List.set_cons_succ])
    refine tk 11 ?_
    (try simp only [Act.put, List.setIfInBounds_toArray, List.set_cons_zero, List.set_cons_succ])
    refine tk 12 ?_
    (try simp only [Act.put, List.setIfInBounds_toArray, List.set_cons_zero, List.set_cons_succ])
    refine tk 13 ?_
    (try simp only [Act.put, List.setIfInBounds_toArray, List.set_cons_zero, List.set_cons_succ])
    refine tk 14 ?_
    (try simp only [Act.put, List.setIfInBounds_toArray, List.set_cons_zero, List.set_cons_succ])
    refine tk 15 ?_
    (try simp only [Act.put, List.setIfInBounds_toArray, List.set_cons_zero, List.set_cons_succ])
    refine tk 16 ?_
    (try simp only [Act.put, List.setIfInBounds_toArray, List.set_cons_zero, List.set_cons_succ])
    refine tk 17 ?_
    (try simp only [Act.put, List.setIfInBounds_toArray, List.set_cons_zero, List.set_cons_succ])
    refine tk 18 ?_
    (try simp only [Act.put, List.setIfInBounds_toArray, List.set_cons_zero, List.set_cons_succ])
    refine tk 19 ?_ (hy := by exact yRc (fun w' h => h.pkCell memA m HL.out HP.out))
    (try simp only [Act.put, List.setIfInBounds_toArray, List.set_cons_zero, List.set_cons_succ])
    refine tk 20 ?_
    (try simp only [Act.put, List.setIfInBounds_toArray, List.set_cons_zero, List.set_cons_succ])
    refine tk 21 ?_
    (try simp only [Act.put, List.setIfInBounds_toArray, List.set_cons_zero, List.set_cons_succ])
    refine wpAnyH_done (by kernel_rfl) ?_ _
    refine NoPanic.normal ?_
    go_wp2_with (first | (go_at_call 153; (with_reducible refine (fateAt_0 _ s _ (tSt.fr S.frame H2.out) m H4.out H8.out HG.out).mono ?_); rintro e w9 ⟨rfl, f9⟩; replace S := S.fr f9; clear f9) | (go_at_call 177; (with_reducible refine (settledN_c _).mono ?_); rintro e w9 ⟨rfl, f9⟩; replace S := S.fr f9; clear f9) | ((with_reducible refine gate_box rfl ?_); refine aBx S ?_; clear S; intro g9 w9 z9 S) | ((with_reducible refine gate_alloc rfl ?_); refine aAl S ?_; clear S; intro g9 w9 z9 S) | ((with_reducible refine gate_load rfl ?_); first | refine aLd S ?_ | refine aPt S ?_ | refine aL1 S ?_) | ((with_reducible refine gate_st rfl ?_); (first | refine aS1 S ?_ | refine aSt S ?_ | refine aSp S ?_); clear S; intro w9 S))
    go_ret
    rw [E.out]
    exact ⟨rfl, _, (S.allLnk c I9 J9 h15).sub subA⟩
  · have HG := Lib.hid (show s.got[m]'H4.out = 1 from hgv)
    have E := Lib.hid (show lateOk c s h ((m : Int) + 1) = false by rw [LV.out, decide_eq_true e1]; rfl)
    clear e1 OG hgv
    go_enter Try.func136, Try.ntmps136
    go_wp2_with (first | ((with_reducible refine gate_box rfl ?_); refine aBx S ?_; clear S; intro g9 w9 z9 S) | ((with_reducible refine gate_alloc rfl ?_); refine aAl S ?_; clear S; intro g9 w9 z9 S) | ((with_reducible refine gate_load rfl ?_); first | refine aLd S ?_ | refine aPt S ?_ | refine aL1 S ?_) | ((with_reducible refine gate_st rfl ?_); (first | refine aS1 S ?_ | refine aSt S ?_ | refine aSp S ?_); clear S; intro w9 S))
    have S0 := S
    refine wp_region_noPanic ?_
    refine wp_region_held_drew (S := Sep _ _ _) (by kernel_rfl) S0.drew (fun _ => ?_)
    replace S := S.drew
    clear S0
    refine tk 0 ?_
    (try simp only [Act.put, List.setIfInBounds_toArray, List.set_cons_zero, List.set_cons_succ])
    refine tk 1 ?_
    (try simp only [Act.put, List.setIfInBounds_toArray, List.set_cons_zero, List.set_cons_succ])
    refine tk 2 ?_
    (try simp only [Act.put, List.setIfInBounds_toArray, List.set_cons_zero, List.set_cons_succ])
    refine tk 3 ?_
    (try simp only [Act.put, List.setIfInBounds_toArray, List.set_cons_zero, List.set_cons_succ])
    refine tk 4 ?_
    (try simp only [Act.put, List.setIfInBounds_toArray, List.set_cons_zero, List.set_cons_succ])
    refine rdy1 5 (fun K hK => ?_)
    go_simp; (skip; go_at_call 152; (with_reducible refine (StateSettled_c _ c.st _ (tSt_mk (S.row (d := tPk) (xs := c.st.sent) (F := Z1) (e := 88) memA).row (S.row (d := tBool) (xs := c.st.live) (F := Z2) (e := 4) memA).row (S.row (d := tBool) (xs := c.st.back) (F := Z3) (e := 4) memA).row (S.row (d := tInt) (xs := c.st.got) (F := Z4) (e := 3) memA).row J9) ((m : Int) + 1)).mono ?_); rintro e w9 ⟨rfl, f9⟩; replace S := S.fr f9; clear f9)
    (first | refine hK.out _ _ (S.sub subA) (fun _ => ?_) | (go_wp2_with fail; refine hK.out _ _ (S.sub subA) (fun _ => ?_)))
    clear hK K
    (try simp only [Act.put, List.setIfInBounds_toArray, List.set_cons_zero, List.set_cons_succ])
    refine tk 6 ?_
    (try simp only [Act.put, List.setIfInBounds_toArray, List.set_cons_zero, List.set_cons_succ])
    refine tk 7 ?_
    (try simp only [Act.put, List.setIfInBounds_toArray, List.set_cons_zero, List.set_cons_succ])
    refine tk 8 ?_
    (try simp only [Act.put, List.setIfInBounds_toArray, List.set_cons_zero, List.set_cons_succ])
    refine tk 9 ?_
    (try simp only [Act.put, List.setIfInBounds_toArray, List.set_cons_zero, List.set_cons_succ])
    refine tk 10 ?_
    (try simp only [Act.put, List.setIfInBounds_toArray, List.set_cons_zero, List.set_cons_succ])
    refine tk 11 ?_
    (try simp only [Act.put, List.setIfInBounds_toArray, List.set_cons_zero, List.set_cons_succ])
    refine tk 12 ?_
    (try simp only [Act.put, List.setIfInBounds_toArray, List.set_cons_zero, List.set_cons_succ])
    refine tk 13 ?_
    (try simp only [Act.put, List.setIfInBounds_toArray, List.set_cons_zero, List.set_cons_succ])
    refine tk 14 ?_
    (try simp only [Act.put, List.setIfInBounds_toArray, List.set_cons_zero, List.set_cons_succ])
    refine tk 15 ?_
    (try simp only [Act.put, List.setIfInBounds_toArray, List.set_cons_zero, List.set_cons_succ])
    refine tk 16 ?_
    (try simp only [Act.put, List.setIfInBounds_toArray, List.set_cons_zero, List.set_cons_succ])
    refine tk 17 ?_
    (try simp only [Act.put, List.setIfInBounds_toArray, List.set_cons_zero, List.set_cons_succ])
    refine tk 18 ?_
    (try simp only [Act.put, List.setIfInBounds_toArray, List.set_cons_zero, List.set_cons_succ])
    refine tk 19 ?_ (hy := by exact yRc (fun w' h => h.pkCell memA m HL.out HP.out))
    (try simp only [Act.put, List.setIfInBounds_toArray, List.set_cons_zero, List.set_cons_succ])
    refine tk 20 ?_
    (try simp only [Act.put, List.setIfInBounds_toArray, List.set_cons_zero, List.set_cons_succ])
    refine tk 21 ?_
    (try simp only [Act.put, List.setIfInBounds_toArray, List.set_cons_zero, List.set_cons_succ])
    refine wpAnyH_done (by kernel_rfl) ?_ _
    refine NoPanic.normal ?_
    go_wp2_with (first | (go_at_call 153; (with_reducible refine (fateAt_1 _ s _ (tSt.fr S.frame H2.out) m H4.out H8.out HG.out).mono ?_); rintro e w9 ⟨rfl, f9⟩; replace S := S.fr f9; clear f9) | (go_at_call 178; (with_reducible refine (settledO_c _).mono ?_); rintro e w9 ⟨rfl, f9⟩; replace S := S.fr f9; clear f9) | ((with_reducible refine gate_box rfl ?_); refine aBx S ?_; clear S; intro g9 w9 z9 S) | ((with_reducible refine gate_alloc rfl ?_); refine aAl S ?_; clear S; intro g9 w9 z9 S) | ((with_reducible refine gate_load rfl ?_); first | refine aLd S ?_ | refine aPt S ?_ | refine aL1 S ?_) | ((with_reducible refine gate_st rfl ?_); (first | refine aS1 S ?_ | refine aSt S ?_ | refine aSp S ?_); clear S; intro w9 S))
    go_ret
    rw [E.out]
    exact ⟨rfl, _, (S.allLnk c I9 J9 h15).sub subA⟩
  · have HG := Lib.hid (show s.got[m]'H4.out = 2 from hgv)
    have E := Lib.hid (show lateOk c s h ((m : Int) + 1) = false by rw [LV.out, decide_eq_true e1]; rfl)
    clear e1 OG hgv
    go_enter Try.func136, Try.ntmps136
    go_wp2_with (first | ((with_reducible refine gate_box rfl ?_); refine aBx S ?_; clear S; intro g9 w9 z9 S) | ((with_reducible refine gate_alloc rfl ?_); refine aAl S ?_; clear S; intro g9 w9 z9 S) | ((with_reducible refine gate_load rfl ?_); first | refine aLd S ?_ | refine aPt S ?_ | refine aL1 S ?_) | ((with_reducible refine gate_st rfl ?_); (first | refine aS1 S ?_ | refine aSt S ?_ | refine aSp S ?_); clear S; intro w9 S))
    have S0 := S
    refine wp_region_noPanic ?_
    refine wp_region_held_drew (S := Sep _ _ _) (by kernel_rfl) S0.drew (fun _ => ?_)
    replace S := S.drew
    clear S0
    refine tk 0 ?_
    (try simp only [Act.put, List.setIfInBounds_toArray, List.set_cons_zero, List.set_cons_succ])
    refine tk 1 ?_
    (try simp only [Act.put, List.setIfInBounds_toArray, List.set_cons_zero, List.set_cons_succ])
    refine tk 2 ?_
    (try simp only [Act.put, List.setIfInBounds_toArray, List.set_cons_zero, List.set_cons_succ])
    refine tk 3 ?_
    (try simp only [Act.put, List.setIfInBounds_toArray, List.set_cons_zero, List.set_cons_succ])
    refine tk 4 ?_
    (try simp only [Act.put, List.setIfInBounds_toArray, List.set_cons_zero, List.set_cons_succ])
    refine rdy1 5 (fun K hK => ?_)
    go_simp; (skip; go_at_call 152; (with_reducible refine (StateSettled_c _ c.st _ (tSt_mk (S.row (d := tPk) (xs := c.st.sent) (F := Z1) (e := 88) memA).row (S.row (d := tBool) (xs := c.st.live) (F := Z2) (e := 4) memA).row (S.row (d := tBool) (xs := c.st.back) (F := Z3) (e := 4) memA).row (S.row (d := tInt) (xs := c.st.got) (F := Z4) (e := 3) memA).row J9) ((m : Int) + 1)).mono ?_); rintro e w9 ⟨rfl, f9⟩; replace S := S.fr f9; clear f9)
    (first | refine hK.out _ _ (S.sub subA) (fun _ => ?_) | (go_wp2_with fail; refine hK.out _ _ (S.sub subA) (fun _ => ?_)))
    clear hK K
    (try simp only [Act.put, List.setIfInBounds_toArray, List.set_cons_zero, List.set_cons_succ])
    refine tk 6 ?_
    (try simp only [Act.put, List.setIfInBounds_toArray, List.set_cons_zero, List.set_cons_succ])
    refine tk 7 ?_
    (try simp only [Act.put, List.setIfInBounds_toArray, List.set_cons_zero, List.set_cons_succ])
    refine tk 8 ?_
    (try simp only [Act.put, List.setIfInBounds_toArray, List.set_cons_zero, List.set_cons_succ])
    refine tk 9 ?_
    (try simp only [Act.put, List.setIfInBounds_toArray, List.set_cons_zero, List.set_cons_succ])
    refine tk 10 ?_
    (try simp only [Act.put, List.setIfInBounds_toArray, List.set_cons_zero, List.set_cons_succ])
    refine tk 11 ?_
    (try simp only [Act.put, List.setIfInBounds_toArray, List.set_cons_zero, List.set_cons_succ])
    refine tk 12 ?_
    (try simp only [Act.put, List.setIfInBounds_toArray, List.set_cons_zero, List.set_cons_succ])
    refine tk 13 ?_
    (try simp only [Act.put, List.setIfInBounds_toArray, List.set_cons_zero, List.set_cons_succ])
    refine tk 14 ?_
    (try simp only [Act.put, List.setIfInBounds_toArray, List.set_cons_zero, List.set_cons_succ])
    refine tk 15 ?_
    (try simp only [Act.put, List.setIfInBounds_toArray, List.set_cons_zero, List.set_cons_succ])
    refine tk 16 ?_
    (try simp only [Act.put, List.setIfInBounds_toArray, List.set_cons_zero, List.set_cons_succ])
    refine tk 17 ?_
    (try simp only [Act.put, List.setIfInBounds_toArray, List.set_cons_zero, List.set_cons_succ])
    refine tk 18 ?_
    (try simp only [Act.put, List.setIfInBounds_toArray, List.set_cons_zero, List.set_cons_succ])
    refine tk 19 ?_ (hy := by exact yRc (fun w' h => h.pkCell memA m HL.out HP.out))
    (try simp only [Act.put, List.setIfInBounds_toArray, List.set_cons_zero, List.set_cons_succ])
    refine tk 20 ?_
    (try simp only [Act.put, List.setIfInBounds_toArray, List.set_cons_zero, List.set_cons_succ])
    refine tk 21 ?_
    (try simp only [Act.put, List.setIfInBounds_toArray, List.set_cons_zero, List.set_cons_succ])
    refine wpAnyH_done (by kernel_rfl) ?_ _
    refine NoPanic.normal ?_
    go_wp2_with (first | (go_at_call 153; (with_reducible refine (fateAt_2 _ s _ (tSt.fr S.frame H2.out) m H4.out H8.out HG.out).mono ?_); rintro e w9 ⟨rfl, f9⟩; replace S := S.fr f9; clear f9) | (go_at_call 179; (with_reducible refine (settledB_c _).mono ?_); rintro e w9 ⟨rfl, f9⟩; replace S := S.fr f9; clear f9) | ((with_reducible refine gate_box rfl ?_); refine aBx S ?_; clear S; intro g9 w9 z9 S) | ((with_reducible refine gate_alloc rfl ?_); refine aAl S ?_; clear S; intro g9 w9 z9 S) | ((with_reducible refine gate_load rfl ?_); first | refine aLd S ?_ | refine aPt S ?_ | refine aL1 S ?_) | ((with_reducible refine gate_st rfl ?_); (first | refine aS1 S ?_ | refine aSt S ?_ | refine aSp S ?_); clear S; intro w9 S))
    go_ret
    rw [E.out]
    exact ⟨rfl, _, (S.allLnk c I9 J9 h15).sub subA⟩
end Go.Proofs.Ytapdcgjccckjeaa
namespace Go.Proofs.Ytapdcgjccckjeaa
set_option maxRecDepth 100000
set_option linter.unusedVariables false
set_option linter.unusedSimpArgs false
open Go.RowKit
set_option maxHeartbeats 6400000 in
theorem late_c (w0 w : World) (L : List Asrt) (g : Nat) (c : Ch) (F : List Nat) (S : Sep [] w0 (aLnk g c F :: L) w) (hc : okCh c = true) (s : St) (v1 v2 v3 v4 : Value) (h2 : tSt.rd w0 s [.int .i64 s.way, .int .i64 s.vsn, .int .i64 s.want, v1, v2, v3, v4]) (hs : okSt s = true) (h n : Int) (bn : I64 n) :
    Calls Try.prog 113 #[.pointer (some ⟨g, 0, none⟩), .agg #[.int .i64 s.way, .int .i64 s.vsn, .int .i64 s.want, v1, v2, v3, v4, .int .i64 h], .int .i64 n] w fun e w' => e = .returned (.bool (lateOk c s h n)) ∧ ∃ F', Sep [] w0 (aLnk g (lateC c s h n) F' :: L) w' := by
  have o1 := tSt_rd_one h2
  have HC := Lib.hid hc
  have HS := Lib.hid hs
  have H2 := Lib.hid h2
  have BN := Lib.hid bn
  cases e : lateOk c s h n with
  | false =>
    have E := Lib.hid e
    have EC := Lib.hid (show lateC c s h n = c by unfold lateC; rw [e]; rfl)
    clear e hc hs h2 bn
    go_enter Try.func113, Try.ntmps113
    go_wp2_with (first
      | (go_at_call 136; go_loud ((with_reducible refine (mayLate_c w0 _ _ g c F (S.pull (a := aLnk g c F) delA) HC.out s v1 v2 v3 v4 H2.out HS.out h n BN.out).mono ?_); rintro e w9 ⟨rfl, F9, T9⟩; rw [E.out]; replace S := T9; clear T9))
      | ((with_reducible refine gate_box rfl ?_); refine aBx S ?_; clear S; intro g9 w9 z9 S) | ((with_reducible refine gate_alloc rfl ?_); refine aAl S ?_; clear S; intro g9 w9 z9 S) | ((with_reducible refine gate_load rfl ?_); first | refine aLd S ?_ | refine aPt S ?_ | refine aL1 S ?_) | ((with_reducible refine gate_st rfl ?_); (first | refine aS1 S ?_ | refine aSt S ?_ | refine aSp S ?_); clear S; intro w9 S))
    go_ret
    rw [EC.out]
    exact ⟨rfl, _, S.sub subA⟩
  | true =>
    have hm : mineV c n = true := by unfold lateOk at e; rw [Bool.and_eq_true] at e; exact e.1
    have hin := mineV_in hm
    obtain ⟨m, rfl⟩ : ∃ m : Nat, n = (m : Int) + 1 := ⟨(n - 1).toNat, by omega⟩
    have hlt : m < c.st.sent.length := by omega
    obtain ⟨p, hp⟩ : ∃ p, c.st.sent[m] = p := ⟨_, rfl⟩
    have PA : pkAt c ((m : Int) + 1) = p := by unfold pkAt; rw [show ((m : Int) + 1 - 1).toNat = m by omega, List.getD_eq_getElem?_getD, List.getElem?_eq_getElem hlt]; exact hp
    have E := Lib.hid e
    have EC := Lib.hid (show lateC c s h ((m : Int) + 1) = refC ⟨c.id, c.bank, ⟨c.st.way, c.st.vsn, c.st.want, c.st.sent, c.st.live.set m false, c.st.back, c.st.got⟩, c.past, c.knows⟩ m p by unfold lateC; rw [e, PA, show ((m : Int) + 1 - 1).toNat = m by omega]; rfl)
    obtain ⟨q1, q2, q3, q4, q5, q6⟩ := okCh_parts hc
    have ll := okSt_len q3
    have HB := Lib.hid q2
    have OP := Lib.hid (show okPk p = true from hp ▸ sent_okPk q3 m hlt)
    have HL := Lib.hid hlt
    have HP := Lib.hid (show c.st.sent[m]'HL.out = p from hp)
    have M7 := Lib.hid (show m < c.st.live.length by omega)
    have M8 := Lib.hid (show m < c.st.back.length by omega)
    have L8 := Lib.hid ll.1
    have L7 := Lib.hid (show (c.st.live.set m false).length = c.st.live.length by simp)
    have p0 : (0 : Int) ≤ (m : Int) := Int.natCast_nonneg _
    have p2 : (m : Int) < (c.st.live.length : Int) := by omega
    have w1 : IntKind.i64.wrap ((m : Int) + 1 - 1) = (m : Int) := by rw [Int.add_sub_cancel]; exact IntWalk.i64_in _ (by omega)
    have w2 : IntKind.i64.wrap (m : Int) = (m : Int) := IntWalk.i64_in _ (by omega)
    clear e hm hin hp PA hc hs h2 bn q1 q2 q3 q4 q5 q6 ll
    go_enter Try.func113, Try.ntmps113
    go_wp2_with (first
      | (go_at_call 136; go_loud ((with_reducible refine (mayLate_c w0 _ _ g c F (S.pull (a := aLnk g c F) delA) HC.out s v1 v2 v3 v4 H2.out HS.out h ((m : Int) + 1) BN.out).mono ?_); rintro e w9 ⟨rfl, F9, T9⟩; rw [E.out]; obtain ⟨A1, m1, A2, m2, B1, n1, B2, n2, B3, n3, B4, n4, q, A5, m5, Y1, Y2, Z1, Z2, Z3, Z4, M1, K1, I9, J9, h15, S9⟩ := T9.openLnk; obtain ⟨g7, r7, e7⟩ := (S9.row (d := tBool) (xs := c.st.live) (F := Z2) (e := 4) memA).shape (Nat.lt_of_le_of_lt (Nat.zero_le _) M7.out); simp only [Value.slice.injEq, true_and] at e7; obtain ⟨rfl, rfl⟩ := e7; replace S := S9; clear S9 T9))
      | ((with_reducible refine gate_store (p := 19) rfl ?_); go_loud (refine aElP (d := tBool) (xs := c.st.live) (x := false) (k := m) S delA (el1_bool false) M7.out ?_); clear S; intro G7 w9 S; rw [← L7.out] at S; replace S := S.allLnk ⟨c.id, c.bank, ⟨c.st.way, c.st.vsn, c.st.want, c.st.sent, c.st.live.set m false, c.st.back, c.st.got⟩, c.past, c.knows⟩ I9 J9 h15)
      | (go_at_call 137; go_loud ((with_reducible refine (refund_c _ g ⟨c.id, c.bank, ⟨c.st.way, c.st.vsn, c.st.want, c.st.sent, c.st.live.set m false, c.st.back, c.st.got⟩, c.past, c.knows⟩ _ (S.lnk List.mem_cons_self) HB.out m HL.out p HP.out OP.out M8.out L8.out).mono ?_); rintro e w9 ⟨rfl, F8, T9⟩; replace S := S.callLnk1 (.head _ _) T9; clear T9))
      | ((with_reducible refine gate_box rfl ?_); refine aBx S ?_; clear S; intro g9 w9 z9 S) | ((with_reducible refine gate_alloc rfl ?_); refine aAl S ?_; clear S; intro g9 w9 z9 S) | ((with_reducible refine gate_load rfl ?_); first | refine aLd S ?_ | refine aPt S ?_ | refine aL1 S ?_) | ((with_reducible refine gate_st rfl ?_); (first | refine aS1 S ?_ | refine aSt S ?_ | refine aSp S ?_); clear S; intro w9 S))
    go_ret
    rw [EC.out]
    exact ⟨rfl, _, S.sub subA⟩
end Go.Proofs.Ytapdcgjccckjeaa
namespace Go.Proofs.Ytapdcgjccckjeaa
set_option maxRecDepth 100000
set_option linter.unusedVariables false
set_option linter.unusedSimpArgs false
open Go.RowKit
theorem tCh_rd_one' {w : World} {c : Ch} {cs : List Value} (h : tCh.rd w c cs) : ∀ u ∈ cs, u.oneCell' = true := by
  obtain ⟨b1, b2, s1, s2, s3, s4, v1, v2, rfl, h1, h2, h3, h4, _⟩ := h
  obtain ⟨r1, r2, _⟩ := tBk_rows h1
  obtain ⟨q1, q2, q3, q4, _⟩ := tSt_rows h2
  obtain ⟨_, _, rfl, _⟩ := h3
  obtain ⟨_, _, rfl, _⟩ := h4
  obtain ⟨_, _, rfl, _⟩ := r1
  obtain ⟨_, _, rfl, _⟩ := r2
  obtain ⟨_, _, rfl, _⟩ := q1
  obtain ⟨_, _, rfl, _⟩ := q2
  obtain ⟨_, _, rfl, _⟩ := q3
  obtain ⟨_, _, rfl, _⟩ := q4
  intro u hu
  simp only [List.mem_cons, List.not_mem_nil, or_false] at hu
  rcases hu with rfl | rfl | rfl | rfl | rfl | rfl | rfl | rfl | rfl | rfl | rfl | rfl | rfl
  all_goals rfl
def lateV (c : Ch) (s : St) (h n : Int) : Ch × Bool := if okCh c = true ∧ okSt s = true ∧ (1 ≤ h ∧ h ≤ 90) then (lateC c s h n, lateOk c s h n) else (nilCh, false)
theorem lateV_no {c : Ch} {s : St} {h n : Int} (k : ¬ (okCh c = true ∧ okSt s = true ∧ (1 ≤ h ∧ h ≤ 90))) : lateV c s h n = (nilCh, false) := if_neg k
theorem lateC_past (c : Ch) (s : St) (h n : Int) : (lateC c s h n).past = c.past := by
  unfold lateC
  split <;> rfl
set_option maxHeartbeats 6400000 in
theorem RelayLate_c (w : World) (c : Ch) (s : St) (c1 c2 : List Value) (h1 : tCh.rd w c c1) (h2 : tSt.rd w s c2) (h n : Int) (bn : I64 n) : Calls Try.prog 53 #[.agg c1.toArray, .agg c2.toArray, .int .i64 h, .int .i64 n] w (RetOwn2 tCh (lateV c s h n) w) := by
  have S := Sep.start w
  have FIN := Lib.hid (fun (W : World) (f : Fr w W) => tCh.fr f h1)
  have FI2 := Lib.hid (fun (W : World) (f : Fr w W) => tSt.fr f h2)
  have LN := Lib.hid (show c1.length = 13 from tCh.len h1)
  have n1 := tCh_rd_one' h1
  have n2 := tSt_rd_one h2
  have BN := Lib.hid bn
  obtain ⟨v1, v2, v3, v4, rfl, _⟩ := id h2
  have H2 := Lib.hid h2
  cases o1 : okCh c with
  | false =>
    have R := Lib.hid (lateV_no (c := c) (s := s) (h := h) (n := n) (by rw [o1]; simp))
    have O1 := Lib.hid o1
    clear o1 h1 h2 bn
    go_enter Try.func53, Try.ntmps53
    go_wp2_with (first | (go_at_call 19; (with_reducible refine (ChainOk_r _ c _ (FIN.out _ S.frame) O1.out).mono ?_); rintro e w9 ⟨rfl, f9⟩; replace S := S.fr f9; clear f9) | ((with_reducible refine gate_box rfl ?_); refine aBx S ?_; clear S; intro g9 w9 z9 S) | ((with_reducible refine gate_alloc rfl ?_); refine aAl S ?_; clear S; intro g9 w9 z9 S) | ((with_reducible refine gate_load rfl ?_); first | refine aLd S ?_ | refine aPt S ?_ | refine aL1 S ?_) | ((with_reducible refine gate_st rfl ?_); (first | refine aS1 S ?_ | refine aSt S ?_ | refine aSp S ?_); clear S; intro w9 S))
    have S := S.nilCh
    (refine Sep.ret1_1 S rfl rfl memA Try.underlying33 rfl ts33 rfl rfl ?_)
    rw [R.out]
    exact S.retOwn2 List.mem_cons_self
  | true =>
  have O1 := Lib.hid o1
  cases o2 : okSt s with
  | false =>
    have R := Lib.hid (lateV_no (c := c) (s := s) (h := h) (n := n) (by rw [o2]; simp))
    have O2 := Lib.hid o2
    clear o1 o2 h1 h2 bn
    go_enter Try.func53, Try.ntmps53
    go_wp2_with (first | (go_at_call 19; (with_reducible refine (ChainOk_r _ c _ (FIN.out _ S.frame) O1.out).mono ?_); rintro e w9 ⟨rfl, f9⟩; replace S := S.fr f9; clear f9) | (go_at_call 68; (with_reducible refine (StateOk_r _ s _ (FI2.out _ S.frame) O2.out).mono ?_); rintro e w9 ⟨rfl, f9⟩; replace S := S.fr f9; clear f9) | ((with_reducible refine gate_box rfl ?_); refine aBx S ?_; clear S; intro g9 w9 z9 S) | ((with_reducible refine gate_alloc rfl ?_); refine aAl S ?_; clear S; intro g9 w9 z9 S) | ((with_reducible refine gate_load rfl ?_); first | refine aLd S ?_ | refine aPt S ?_ | refine aL1 S ?_) | ((with_reducible refine gate_st rfl ?_); (first | refine aS1 S ?_ | refine aSt S ?_ | refine aSp S ?_); clear S; intro w9 S))
    have S := S.nilCh
    (refine Sep.ret1_1 S rfl rfl memA Try.underlying33 rfl ts33 rfl rfl ?_)
    rw [R.out]
    exact S.retOwn2 List.mem_cons_self
  | true =>
  have O2 := Lib.hid o2
  by_cases e1 : 1 ≤ h ∧ h ≤ 90
  case neg =>
    have R := Lib.hid (lateV_no (c := c) (s := s) (h := h) (n := n) (fun k => e1 k.2.2))
    by_cases e2 : h < 1
    · have d1 : decide (h < 1) = true := decide_eq_true e2
      clear o1 o2 h1 h2 bn e1 e2
      go_enter Try.func53, Try.ntmps53
      go_wp2_with (first | (go_at_call 19; (with_reducible refine (ChainOk_r _ c _ (FIN.out _ S.frame) O1.out).mono ?_); rintro e w9 ⟨rfl, f9⟩; replace S := S.fr f9; clear f9) | (go_at_call 68; (with_reducible refine (StateOk_r _ s _ (FI2.out _ S.frame) O2.out).mono ?_); rintro e w9 ⟨rfl, f9⟩; replace S := S.fr f9; clear f9) | ((with_reducible refine gate_box rfl ?_); refine aBx S ?_; clear S; intro g9 w9 z9 S) | ((with_reducible refine gate_alloc rfl ?_); refine aAl S ?_; clear S; intro g9 w9 z9 S) | ((with_reducible refine gate_load rfl ?_); first | refine aLd S ?_ | refine aPt S ?_ | refine aL1 S ?_) | ((with_reducible refine gate_st rfl ?_); (first | refine aS1 S ?_ | refine aSt S ?_ | refine aSp S ?_); clear S; intro w9 S))
      have S := S.nilCh
      (refine Sep.ret1_1 S rfl rfl memA Try.underlying33 rfl ts33 rfl rfl ?_)
      rw [R.out]
      exact S.retOwn2 List.mem_cons_self
    · have d1 : decide (h < 1) = false := decide_eq_false e2
      have d2 : decide (90 < h) = true := decide_eq_true (by omega)
      clear o1 o2 h1 h2 bn e1 e2
      go_enter Try.func53, Try.ntmps53
      go_wp2_with (first | (go_at_call 19; (with_reducible refine (ChainOk_r _ c _ (FIN.out _ S.frame) O1.out).mono ?_); rintro e w9 ⟨rfl, f9⟩; replace S := S.fr f9; clear f9) | (go_at_call 68; (with_reducible refine (StateOk_r _ s _ (FI2.out _ S.frame) O2.out).mono ?_); rintro e w9 ⟨rfl, f9⟩; replace S := S.fr f9; clear f9) | ((with_reducible refine gate_box rfl ?_); refine aBx S ?_; clear S; intro g9 w9 z9 S) | ((with_reducible refine gate_alloc rfl ?_); refine aAl S ?_; clear S; intro g9 w9 z9 S) | ((with_reducible refine gate_load rfl ?_); first | refine aLd S ?_ | refine aPt S ?_ | refine aL1 S ?_) | ((with_reducible refine gate_st rfl ?_); (first | refine aS1 S ?_ | refine aSt S ?_ | refine aSp S ?_); clear S; intro w9 S))
      have S := S.nilCh
      (refine Sep.ret1_1 S rfl rfl memA Try.underlying33 rfl ts33 rfl rfl ?_)
      rw [R.out]
      exact S.retOwn2 List.mem_cons_self
  have R := Lib.hid (show lateV c s h n = (lateC c s h n, lateOk c s h n) from if_pos ⟨o1, o2, e1⟩)
  have BL := Lib.hid (show (lateC c s h n).past.length ≤ 1000000 by rw [lateC_past]; have := (okCh_parts o1).2.2.2.1; omega)
  have d1 : decide (h < 1) = false := decide_eq_false (by omega)
  have d2 : decide (90 < h) = false := decide_eq_false (by omega)
  clear o1 o2 h1 h2 bn e1
  go_enter Try.func53, Try.ntmps53
  go_wp2_with (first
    | (go_at_call 19; (with_reducible refine (ChainOk_r _ c _ (FIN.out _ S.frame) O1.out).mono ?_); rintro e w9 ⟨rfl, f9⟩; replace S := S.fr f9; clear f9) | (go_at_call 68; (with_reducible refine (StateOk_r _ s _ (FI2.out _ S.frame) O2.out).mono ?_); rintro e w9 ⟨rfl, f9⟩; replace S := S.fr f9; clear f9)
    | (go_at_call 104; (with_reducible refine (linkOf_c _ c _ (FIN.out _ S.frame) O1.out).mono ?_); rintro e w9 ⟨g9, F9, rfl, T9⟩; replace S := S.call01 T9; clear T9)
    | (go_at_call 113; go_loud ((with_reducible refine (late_c w _ _ g9 c F9 (S.pull (a := aLnk g9 c F9) delA) O1.out s v1 v2 v3 v4 H2.out O2.out h n BN.out).mono ?_); rintro e w9 ⟨rfl, F8, T9⟩; replace S := T9; clear T9))
    | (go_at_call 65; go_loud ((with_reducible refine (chain_c _ g9 (lateC c s h n) F8 (S.lnk memA) BL.out).mono ?_); rintro e w9 ⟨cs9, G9, rfl, T9⟩; replace S := S.callLnk1 delA T9; clear T9))
    | ((with_reducible refine gate_box rfl ?_); refine aBx S ?_; clear S; intro g9 w9 z9 S) | ((with_reducible refine gate_alloc rfl ?_); refine aAl S ?_; clear S; intro g9 w9 z9 S) | ((with_reducible refine gate_load rfl ?_); first | refine aLd S ?_ | refine aPt S ?_ | refine aL1 S ?_) | ((with_reducible refine gate_st rfl ?_); (first | refine aS1 S ?_ | refine aSt S ?_ | refine aSp S ?_); clear S; intro w9 S))
  (refine Sep.ret1_1 S rfl rfl memA Try.underlying33 rfl ts33 rfl rfl ?_)
  rw [R.out]
  exact S.retOwn2 memA
set_option maxHeartbeats 6400000 in
theorem sRelayLate_c (w : World) (c : Ch) (s : St) (c1 c2 : List Value) (h1 : tCh.rd w c c1) (h2 : tSt.rd w s c2) (h n : Int) (bn : I64 n) : Calls Try.prog 51 #[.agg c1.toArray, .agg c2.toArray, .int .i64 h, .int .i64 n] w (RetOwn2 tCh (lateV c s h n) w) := by
  have S := Sep.start w
  have FIN := Lib.hid (fun (W : World) (f : Fr w W) => tCh.fr f h1)
  have FI2 := Lib.hid (fun (W : World) (f : Fr w W) => tSt.fr f h2)
  have LN := Lib.hid (show c1.length = 13 from tCh.len h1)
  have n1 := tCh_rd_one' h1
  have n2 := tSt_rd_one h2
  have BN := Lib.hid bn
  obtain ⟨v1, v2, v3, v4, rfl, _⟩ := id h2
  have H2 := Lib.hid h2
  cases o1 : okCh c with
  | false =>
    have R := Lib.hid (lateV_no (c := c) (s := s) (h := h) (n := n) (by rw [o1]; simp))
    have O1 := Lib.hid o1
    clear o1 h1 h2 bn
    go_enter Try.func51, Try.ntmps51
    go_wp2_with (first | (go_at_call 33; (with_reducible refine (sChainOk_r _ c _ (FIN.out _ S.frame) O1.out).mono ?_); rintro e w9 ⟨rfl, f9⟩; replace S := S.fr f9; clear f9) | ((with_reducible refine gate_box rfl ?_); refine aBx S ?_; clear S; intro g9 w9 z9 S) | ((with_reducible refine gate_alloc rfl ?_); refine aAl S ?_; clear S; intro g9 w9 z9 S) | ((with_reducible refine gate_load rfl ?_); first | refine aLd S ?_ | refine aPt S ?_ | refine aL1 S ?_) | ((with_reducible refine gate_st rfl ?_); (first | refine aS1 S ?_ | refine aSt S ?_ | refine aSp S ?_); clear S; intro w9 S))
    have S := S.nilCh
    (refine Sep.ret1_1 S rfl rfl memA Try.underlying33 rfl ts33 rfl rfl ?_)
    rw [R.out]
    exact S.retOwn2 List.mem_cons_self
  | true =>
  have O1 := Lib.hid o1
  cases o2 : okSt s with
  | false =>
    have R := Lib.hid (lateV_no (c := c) (s := s) (h := h) (n := n) (by rw [o2]; simp))
    have O2 := Lib.hid o2
    clear o1 o2 h1 h2 bn
    go_enter Try.func51, Try.ntmps51
    go_wp2_with (first | (go_at_call 33; (with_reducible refine (sChainOk_r _ c _ (FIN.out _ S.frame) O1.out).mono ?_); rintro e w9 ⟨rfl, f9⟩; replace S := S.fr f9; clear f9) | (go_at_call 88; (with_reducible refine (sStateOk_r _ s _ (FI2.out _ S.frame) O2.out).mono ?_); rintro e w9 ⟨rfl, f9⟩; replace S := S.fr f9; clear f9) | ((with_reducible refine gate_box rfl ?_); refine aBx S ?_; clear S; intro g9 w9 z9 S) | ((with_reducible refine gate_alloc rfl ?_); refine aAl S ?_; clear S; intro g9 w9 z9 S) | ((with_reducible refine gate_load rfl ?_); first | refine aLd S ?_ | refine aPt S ?_ | refine aL1 S ?_) | ((with_reducible refine gate_st rfl ?_); (first | refine aS1 S ?_ | refine aSt S ?_ | refine aSp S ?_); clear S; intro w9 S))
    have S := S.nilCh
    (refine Sep.ret1_1 S rfl rfl memA Try.underlying33 rfl ts33 rfl rfl ?_)
    rw [R.out]
    exact S.retOwn2 List.mem_cons_self
  | true =>
  have O2 := Lib.hid o2
  by_cases e1 : 1 ≤ h ∧ h ≤ 90
  case neg =>
    have R := Lib.hid (lateV_no (c := c) (s := s) (h := h) (n := n) (fun k => e1 k.2.2))
    have HI := Lib.hid (show decide (1 ≤ h ∧ h ≤ 90) = false from decide_eq_false e1)
    clear o1 o2 h1 h2 bn e1
    go_enter Try.func51, Try.ntmps51
    go_wp2_with (first | (go_at_call 33; (with_reducible refine (sChainOk_r _ c _ (FIN.out _ S.frame) O1.out).mono ?_); rintro e w9 ⟨rfl, f9⟩; replace S := S.fr f9; clear f9) | (go_at_call 88; (with_reducible refine (sStateOk_r _ s _ (FI2.out _ S.frame) O2.out).mono ?_); rintro e w9 ⟨rfl, f9⟩; replace S := S.fr f9; clear f9) | (go_at_call 61; (with_reducible refine (l6In_e _ h 1 90 HI.out).mono ?_); rintro e w9 ⟨rfl, rfl⟩) | ((with_reducible refine gate_box rfl ?_); refine aBx S ?_; clear S; intro g9 w9 z9 S) | ((with_reducible refine gate_alloc rfl ?_); refine aAl S ?_; clear S; intro g9 w9 z9 S) | ((with_reducible refine gate_load rfl ?_); first | refine aLd S ?_ | refine aPt S ?_ | refine aL1 S ?_) | ((with_reducible refine gate_st rfl ?_); (first | refine aS1 S ?_ | refine aSt S ?_ | refine aSp S ?_); clear S; intro w9 S))
    have S := S.nilCh
    (refine Sep.ret1_1 S rfl rfl memA Try.underlying33 rfl ts33 rfl rfl ?_)
    rw [R.out]
    exact S.retOwn2 List.mem_cons_self
  have R := Lib.hid (show lateV c s h n = (lateC c s h n, lateOk c s h n) from if_pos ⟨o1, o2, e1⟩)
  have HI := Lib.hid (show decide (1 ≤ h ∧ h ≤ 90) = true from decide_eq_true e1)
  clear o1 o2 h1 h2 bn e1
  go_enter Try.func51, Try.ntmps51
  go_wp2_with (first | (go_at_call 33; (with_reducible refine (sChainOk_r _ c _ (FIN.out _ S.frame) O1.out).mono ?_); rintro e w9 ⟨rfl, f9⟩; replace S := S.fr f9; clear f9) | (go_at_call 88; (with_reducible refine (sStateOk_r _ s _ (FI2.out _ S.frame) O2.out).mono ?_); rintro e w9 ⟨rfl, f9⟩; replace S := S.fr f9; clear f9) | (go_at_call 61; (with_reducible refine (l6In_e _ h 1 90 HI.out).mono ?_); rintro e w9 ⟨rfl, rfl⟩) | ((with_reducible refine gate_box rfl ?_); refine aBx S ?_; clear S; intro g9 w9 z9 S) | ((with_reducible refine gate_alloc rfl ?_); refine aAl S ?_; clear S; intro g9 w9 z9 S) | ((with_reducible refine gate_load rfl ?_); first | refine aLd S ?_ | refine aPt S ?_ | refine aL1 S ?_) | ((with_reducible refine gate_st rfl ?_); (first | refine aS1 S ?_ | refine aSt S ?_ | refine aSp S ?_); clear S; intro w9 S))
  have S0 := S.drop
  refine wp_region_noPanic ?_
  refine wp_region_held_drew (S := Sep _ _ _) (by kernel_rfl) S0.drew (fun _ => ?_)
  replace S := S.drew
  clear S0
  refine tk 0 ?_
  (try simp only [Act.put, List.setIfInBounds_toArray, List.set_cons_zero, List.set_cons_succ])
  refine tk 2 ?_
  (try simp only [Act.put, List.setIfInBounds_toArray, List.set_cons_zero, List.set_cons_succ])
  refine tk 3 ?_
  (try simp only [Act.put, List.setIfInBounds_toArray, List.set_cons_zero, List.set_cons_succ])
  refine tk 4 ?_
  (try simp only [Act.put, List.setIfInBounds_toArray, List.set_cons_zero, List.set_cons_succ])
  refine rdy1 1 (fun K hK => ?_)
  go_simp; (skip; go_at_call 103; (with_reducible refine (l12Copy_c _ c _ (FIN.out _ S.frame) O1.out).mono ?_); rintro e w9 ⟨cs9, F9, rfl, h9, n9, b9, f9⟩; replace S := S.new (aOwn tCh _ cs9 F9) h9 n9 b9 f9; clear h9 n9 b9 f9)
  (first | refine hK.out _ _ (S.sub subA) (fun _ => ?_) | (go_wp2_with fail; refine hK.out _ _ (S.sub subA) (fun _ => ?_)))
  clear hK K
  (try simp only [Act.put, List.setIfInBounds_toArray, List.set_cons_zero, List.set_cons_succ])
  refine rdy1 5 (fun K hK => ?_)
  go_simp; (skip; go_at_call 110; (with_reducible refine (l13Late_c w _ _ c cs9 F9 (S.pull (a := aOwn tCh c cs9 F9) delA) O1.out s _ H2.out O2.out h n BN.out).mono ?_); rintro e w9 ⟨cs8, F8, rfl, T9⟩; replace S := T9; clear T9)
  (first | refine hK.out _ _ (S.sub subA) (fun _ => ?_) | (go_wp2_with fail; refine hK.out _ _ (S.sub subA) (fun _ => ?_)))
  clear hK K
  (try simp only [Act.put, List.setIfInBounds_toArray, List.set_cons_zero, List.set_cons_succ])
  refine tk 6 ?_
  (try simp only [Act.put, List.setIfInBounds_toArray, List.set_cons_zero, List.set_cons_succ])
  refine tk 7 ?_
  (try simp only [Act.put, List.setIfInBounds_toArray, List.set_cons_zero, List.set_cons_succ])
  refine rdy1 8 (fun K hK => ?_)
  (first | refine rgS1 S ?_ | refine rgSt S ?_ | refine rgSp S ?_); clear S; intro w9 S
  (first | refine hK.out _ _ (S.sub subA) (fun _ => ?_) | (go_wp2_with fail; refine hK.out _ _ (S.sub subA) (fun _ => ?_)))
  clear hK K
  (try simp only [Act.put, List.setIfInBounds_toArray, List.set_cons_zero, List.set_cons_succ])
  refine tk 9 ?_
  (try simp only [Act.put, List.setIfInBounds_toArray, List.set_cons_zero, List.set_cons_succ])
  refine wpAnyH_done (by kernel_rfl) ?_ _
  refine NoPanic.normal ?_
  go_wp2_with (first | ((with_reducible refine gate_box rfl ?_); refine aBx S ?_; clear S; intro g9 w9 z9 S) | ((with_reducible refine gate_alloc rfl ?_); refine aAl S ?_; clear S; intro g9 w9 z9 S) | ((with_reducible refine gate_load rfl ?_); first | refine aLd S ?_ | refine aPt S ?_ | refine aL1 S ?_) | ((with_reducible refine gate_st rfl ?_); (first | refine aS1 S ?_ | refine aSt S ?_ | refine aSp S ?_); clear S; intro w9 S))
  (refine Sep.ret1_1 S rfl rfl memA Try.underlying33 rfl ts33 rfl rfl ?_)
  rw [R.out]
  exact S.retOwn2 memA
end Go.Proofs.Ytapdcgjccckjeaa
namespace Go.Proofs.Ytapdcgjccckjeaa
set_option maxRecDepth 100000
set_option linter.unusedVariables false
set_option linter.unusedSimpArgs false
open Go.RowKit
theorem smallCh_past {c : Ch} (h : SmallCh c) : cntMStS c.past ≤ 1000000000 := h.2.2.2.1
theorem cntCh_past {c : Ch} (h : cntCh c ≤ 1048576) : cntMStS c.past ≤ 1000000000 := by
  have := cntMStS_bd c.past
  unfold cntCh at h
  omega
end Go.Proofs.Ytapdcgjccckjeaa
namespace Go.Proofs.Ytapdcgjccckjeaa
set_option maxRecDepth 100000
set_option linter.unusedVariables false
set_option linter.unusedSimpArgs false
open Go.RowKit
theorem cntMSt_le2 {s : St} (h : cntSt s ≤ 1048576) : cntMSt s ≤ 7340032 := by
  have := cntMSt_le (s := s)
  omega
theorem small_like {c x : Ch} (hc : okCh c = true) (h1 : x.bank.own.length = c.bank.own.length ∧ x.bank.notes.length = c.bank.notes.length) (h2 : x.st.sent.length = c.st.sent.length ∧ x.st.live.length = c.st.live.length ∧ x.st.back.length = c.st.back.length ∧ x.st.got.length = c.st.got.length) (h7 : x.past = c.past) (h8 : x.knows = c.knows) : SmallCh x := by
  obtain ⟨q1, q2, q3, q4, q5, q6⟩ := okCh_parts hc
  have k1 := knOk_len q6
  obtain ⟨⟨a1, a2⟩, a3, a4, a5, a6⟩ := SmallCh.mk' q2 q3 (List.all_eq_true.1 q5) (by omega) (by omega)
  cases x
  simp only at h1 h2 h7 h8
  subst h7
  subst h8
  refine ⟨⟨by simp only []; omega, by simp only []; omega⟩, ?_, a4, a5, a6⟩
  unfold Small at a3 ⊢
  simp only []
  omega
theorem settleCh_small {c : Ch} (hc : okCh c = true) (m : Nat) (p : Pk) (b : Bool) : SmallCh (settleCh c m p b) := by
  refine small_like hc ?_ ?_ rfl rfl
  · unfold settleCh paidBk
    have := backBk_len c.bank p.kind p.frm p.sum
    cases b
    · exact ⟨rfl, rfl⟩
    · simp only [if_true]
      split
      · exact this
      · exact ⟨rfl, rfl⟩
  · unfold settleCh
    cases b <;> simp
theorem okCh_smallCh {c : Ch} (hc : okCh c = true) : SmallCh c := small_like hc ⟨rfl, rfl⟩ ⟨rfl, rfl, rfl, rfl⟩ rfl rfl
theorem lateV_small {c x : Ch} {s : St} {h n : Int} {ok : Bool} (hR : lateV c s h n = (x, ok)) : SmallCh x := by
  unfold lateV at hR
  split at hR
  · rename_i hc
    simp only [Prod.mk.injEq] at hR
    rw [← hR.1]
    unfold lateC
    split
    · exact settleCh_small hc.1 _ _ _
    · exact okCh_smallCh hc.1
  · simp only [Prod.mk.injEq] at hR
    rw [← hR.1]
    exact nilCh_small
theorem RelayLate_e (w : World) (c : Ch) (s : St) (c1 c2 : List Value) (h1 : tCh.rd w c c1) (h2 : tSt.rd w s c2) (h n : Int) (bn : I64 n) {x : Ch} {ok : Bool} (hR : lateV c s h n = (x, ok)) : Calls Try.prog 53 #[.agg c1.toArray, .agg c2.toArray, .int .i64 h, .int .i64 n] w (RetOwn2 tCh (x, ok) w) := hR ▸ RelayLate_c w c s c1 c2 h1 h2 h n bn
theorem sRelayLate_e (w : World) (c : Ch) (s : St) (c1 c2 : List Value) (h1 : tCh.rd w c c1) (h2 : tSt.rd w s c2) (h n : Int) (bn : I64 n) {x : Ch} {ok : Bool} (hR : lateV c s h n = (x, ok)) : Calls Try.prog 51 #[.agg c1.toArray, .agg c2.toArray, .int .i64 h, .int .i64 n] w (RetOwn2 tCh (x, ok) w) := hR ▸ sRelayLate_c w c s c1 c2 h1 h2 h n bn
end Go.Proofs.Ytapdcgjccckjeaa
namespace Go.Proofs.Ytapdcgjccckjeaa
set_option maxRecDepth 100000
set_option linter.unusedVariables false
set_option linter.unusedSimpArgs false
open Go.RowKit
def tellOk (c : Ch) (s : St) (n : Int) : Bool := mineV c n && !(decide (s.got.getD (n - 1).toNat 0 = 0))
def tellC (c : Ch) (s : St) (n : Int) : Ch := if tellOk c s n = true then settleCh c (n - 1).toNat (pkAt c n) (decide (s.got.getD (n - 1).toNat 0 = 2)) else c
set_option maxHeartbeats 6400000 in
theorem l13Tell_c (w0 w : World) (L : List Asrt) (c : Ch) (c1 : List Value) (F : List Nat) (S : Sep [] w0 (aOwn tCh c c1 F :: L) w) (hc : okCh c = true) (s : St) (c2 : List Value) (h2 : tSt.rd w0 s c2) (hs : okSt s = true) (n : Int) (bn : I64 n) :
    Calls Try.prog 114 #[.agg c1.toArray, .agg c2.toArray, .int .i64 n] w fun e w' => ∃ cs F', e = .returned (.tuple #[.agg cs.toArray, .bool (tellOk c s n)]) ∧ Sep [] w0 (aOwn tCh (tellC c s n) cs F' :: L) w' := by
  obtain ⟨o1, o2, o3, o4, rfl, t1, t2, t3, t4, _⟩ := id h2
  obtain ⟨D1, l1, rfl⟩ := t1.val
  obtain ⟨D2, l2, rfl⟩ := t2.val
  obtain ⟨D3, l3, rfl⟩ := t3.val
  obtain ⟨D4, l4, rfl⟩ := t4.val
  obtain ⟨b1, b2, s1, s2, s3, s4, A1, n1, A2, n2, F1, F2, F3, F4, rfl, rfl, h15, S9⟩ := S.openCh
  obtain ⟨A6, n6, A7, n7, A8, n8, A9, n9, e1⟩ := S9.shapeSt (.tail _ (.head _))
  simp only [List.cons.injEq, and_true, true_and] at e1
  obtain ⟨rfl, rfl, rfl, rfl⟩ := e1
  obtain ⟨B1, k1, B2, k2, e1⟩ := S9.shapeBk List.mem_cons_self
  simp only [List.cons.injEq, and_true, true_and] at e1
  obtain ⟨rfl, rfl⟩ := e1
  clear S9
  have ll := okSt_len (okCh_parts hc).2.2.1
  have lg := (okSt_len hs).2.2.2
  have HC := Lib.hid hc
  cases hm : mineV c n with
  | false =>
    have E := Lib.hid (show tellOk c s n = false by unfold tellOk; rw [hm]; rfl)
    have HM := Lib.hid hm
    have EC := Lib.hid (show tellC c s n = c by unfold tellC; rw [E.out]; rfl)
    clear hm hc ll lg
    go_enter Try.func114, Try.ntmps114
    go_wp2_with (first
      | (go_at_call 134; (with_reducible refine (l13Mine_c _ c _ (S.rd (d := tCh) (F := F1 ++ (F2 ++ (F3 ++ F4))) memA) HC.out n HM.out).mono ?_); rintro e w9 ⟨rfl, f9⟩; replace S := S.fr f9; clear f9)
      | ((with_reducible refine gate_box rfl ?_); refine aBx S ?_; clear S; intro g9 w9 z9 S) | ((with_reducible refine gate_alloc rfl ?_); refine aAl S ?_; clear S; intro g9 w9 z9 S) | ((with_reducible refine gate_load rfl ?_); first | refine aLd S ?_ | refine aPt S ?_ | refine aL1 S ?_) | ((with_reducible refine gate_st rfl ?_); (first | refine aS1 S ?_ | refine aSt S ?_ | refine aSp S ?_); clear S; intro w9 S))
    (refine Sep.ret1_1 S rfl rfl memA Try.underlying33 rfl ts33 rfl rfl ?_)
    rw [E.out, EC.out]
    exact ⟨_, _, rfl, S.sub subA⟩
  | true =>
  have hin := mineV_in hm
  obtain ⟨m, rfl⟩ : ∃ m : Nat, n = (m : Int) + 1 := ⟨(n - 1).toNat, by omega⟩
  have hlt : m < c.st.sent.length := by omega
  have hl4 : m < s.got.length := by omega
  obtain ⟨p, hp⟩ : ∃ p, c.st.sent[m] = p := ⟨_, rfl⟩
  have PA := Lib.hid (show pkAt c ((m : Int) + 1) = p by unfold pkAt; rw [show ((m : Int) + 1 - 1).toNat = m by omega, List.getD_eq_getElem?_getD, List.getElem?_eq_getElem hlt]; exact hp)
  obtain ⟨g, hg⟩ : ∃ g, s.got[m] = g := ⟨_, rfl⟩
  have GA := Lib.hid (show s.got.getD ((m : Int) + 1 - 1).toNat 0 = g by rw [show ((m : Int) + 1 - 1).toNat = m by omega, List.getD_eq_getElem?_getD, List.getElem?_eq_getElem hl4]; exact hg)
  have LV := Lib.hid (show tellOk c s ((m : Int) + 1) = !(decide (g = 0)) by unfold tellOk; rw [hm, GA.out, Bool.true_and])
  have LC := Lib.hid (fun (h : tellOk c s ((m : Int) + 1) = true) => show tellC c s ((m : Int) + 1) = settleCh c m p (decide (g = 2)) by unfold tellC; rw [h, PA.out, GA.out, show ((m : Int) + 1 - 1).toNat = m by omega]; rfl)
  have OG := okSt_got hs m hl4
  rw [hg] at OG
  obtain ⟨ad4, e4, g4⟩ := row_int_at t4 m hl4
  cases e4
  rw [hg] at g4
  have HL := Lib.hid hlt
  have HP := Lib.hid (show c.st.sent[m]'HL.out = p from hp)
  have p0 : (0 : Int) ≤ (m : Int) := Int.natCast_nonneg _
  have p4 : (m : Int) < (s.got.length : Int) := by omega
  have w1 : IntKind.i64.wrap ((m : Int) + 1 - 1) = (m : Int) := by rw [Int.add_sub_cancel]; exact IntWalk.i64_in _ (by omega)
  have w2 : IntKind.i64.wrap (m : Int) = (m : Int) := IntWalk.i64_in _ (by omega)
  have HM := Lib.hid hm
  clear hp hg hin hm hc ll lg
  rcases (by omega : g = 0 ∨ g = 1 ∨ g = 2) with rfl | rfl | rfl
  · have G4 := Lib.hid g4
    have E := Lib.hid (show tellOk c s ((m : Int) + 1) = false by rw [LV.out]; rfl)
    have EC := Lib.hid (show tellC c s ((m : Int) + 1) = c by unfold tellC; rw [E.out]; rfl)
    clear g4 OG
    go_enter Try.func114, Try.ntmps114
    go_wp2_with (first
      | (go_at_call 134; (with_reducible refine (l13Mine_c _ c _ (S.rd (d := tCh) (F := F1 ++ (F2 ++ (F3 ++ F4))) memA) HC.out ((m : Int) + 1) HM.out).mono ?_); rintro e w9 ⟨rfl, f9⟩; replace S := S.fr f9; clear f9)
      | ((with_reducible refine gate_dst (N := 18) rfl ?_); go_loud (refine aRc (S.frame.cell G4.out) ?_))
      | ((with_reducible refine gate_box rfl ?_); refine aBx S ?_; clear S; intro g9 w9 z9 S) | ((with_reducible refine gate_alloc rfl ?_); refine aAl S ?_; clear S; intro g9 w9 z9 S) | ((with_reducible refine gate_load rfl ?_); first | refine aLd S ?_ | refine aPt S ?_ | refine aL1 S ?_) | ((with_reducible refine gate_st rfl ?_); (first | refine aS1 S ?_ | refine aSt S ?_ | refine aSp S ?_); clear S; intro w9 S))
    (refine Sep.ret1_1 S rfl rfl memA Try.underlying33 rfl ts33 rfl rfl ?_)
    rw [E.out, EC.out]
    exact ⟨_, _, rfl, S.sub subA⟩
  · have G4 := Lib.hid g4
    have E := Lib.hid (show tellOk c s ((m : Int) + 1) = true by rw [LV.out]; rfl)
    have EC := Lib.hid (show tellC c s ((m : Int) + 1) = settleCh c m p false by exact LC.out E.out)
    clear g4 OG
    go_enter Try.func114, Try.ntmps114
    go_wp2_with (first
      | ((with_reducible refine gate_dst (N := 3) rfl ?_); refine aBx S ?_; clear S; intro gA w9 z9 S)
      | ((with_reducible refine gate_dst (N := 4) rfl ?_); refine aBx S ?_; clear S; intro gB w9 z9 S)
      | (go_at_call 134; (with_reducible refine (l13Mine_c _ c _ (S.rd (d := tCh) (F := F1 ++ (F2 ++ (F3 ++ F4))) memA) HC.out ((m : Int) + 1) HM.out).mono ?_); rintro e w9 ⟨rfl, f9⟩; replace S := S.fr f9; clear f9)
      | ((with_reducible refine gate_dst (N := 18) rfl ?_); go_loud (refine aRc (S.frame.cell G4.out) ?_))
      | ((with_reducible refine gate_box rfl ?_); refine aBx S ?_; clear S; intro g9 w9 z9 S) | ((with_reducible refine gate_alloc rfl ?_); refine aAl S ?_; clear S; intro g9 w9 z9 S) | ((with_reducible refine gate_load rfl ?_); first | refine aLd S ?_ | refine aPt S ?_ | refine aL1 S ?_) | ((with_reducible refine gate_st rfl ?_); (first | refine aS1 S ?_ | refine aSt S ?_ | refine aSp S ?_); clear S; intro w9 S))
    have S0 := (Sep.only2 (a1 := aBox gB 30 _ _) (a2 := aBox gA 33 _ _) S delA delA)
    refine wp_region_noPanic ?_
    refine wp_region_held_drew (S := Sep _ _ _) (by kernel_rfl) S0.drew (fun _ => ?_)
    replace S := S.drew
    clear S0
    refine tk 0 ?_
    (try simp only [Act.put, List.setIfInBounds_toArray, List.set_cons_zero, List.set_cons_succ])
    refine tk 1 ?_
    (try simp only [Act.put, List.setIfInBounds_toArray, List.set_cons_zero, List.set_cons_succ])
    refine tk 2 ?_
    (try simp only [Act.put, List.setIfInBounds_toArray, List.set_cons_zero, List.set_cons_succ])
    refine tk 3 ?_
    (try simp only [Act.put, List.setIfInBounds_toArray, List.set_cons_zero, List.set_cons_succ])
    refine tk 4 ?_
    (try simp only [Act.put, List.setIfInBounds_toArray, List.set_cons_zero, List.set_cons_succ])
    refine tk 5 ?_
    (try simp only [Act.put, List.setIfInBounds_toArray, List.set_cons_zero, List.set_cons_succ])
    refine tk 6 ?_
    (try simp only [Act.put, List.setIfInBounds_toArray, List.set_cons_zero, List.set_cons_succ])
    refine tk 7 ?_ (hy := by exact yRc (fun w' h => h.frame.cell G4.out))
    (try simp only [Act.put, List.setIfInBounds_toArray, List.set_cons_zero, List.set_cons_succ])
    refine tk 8 ?_
    (try simp only [Act.put, List.setIfInBounds_toArray, List.set_cons_zero, List.set_cons_succ])
    refine rdy1 9 (fun K hK => ?_)
    go_simp; (skip; go_at_call 135; (with_reducible refine (l13Settle_c _ c _ (F1 ++ (F2 ++ (F3 ++ F4))) (S.ownOk memA) HC.out m HL.out p HP.out false).mono ?_); rintro e w9 ⟨cs9, F9, rfl, T9⟩; replace S := S.callCh1 delA T9; clear T9)
    (first | refine hK.out _ _ (S.sub subA) (fun _ => ?_) | (go_wp2_with fail; refine hK.out _ _ (S.sub subA) (fun _ => ?_)))
    clear hK K
    (try simp only [Act.put, List.setIfInBounds_toArray, List.set_cons_zero, List.set_cons_succ])
    refine rdy1 10 (fun K hK => ?_)
    (first | refine rgS1 S ?_ | refine rgSt S ?_ | refine rgSp S ?_); clear S; intro w9 S
    (first | refine hK.out _ _ (S.sub subA) (fun _ => ?_) | (go_wp2_with fail; refine hK.out _ _ (S.sub subA) (fun _ => ?_)))
    clear hK K
    (try simp only [Act.put, List.setIfInBounds_toArray, List.set_cons_zero, List.set_cons_succ])
    refine tk 11 ?_
    (try simp only [Act.put, List.setIfInBounds_toArray, List.set_cons_zero, List.set_cons_succ])
    refine wpAnyH_done (by kernel_rfl) ?_ _
    refine NoPanic.normal ?_
    go_wp2_with (first | ((with_reducible refine gate_box rfl ?_); refine aBx S ?_; clear S; intro g9 w9 z9 S) | ((with_reducible refine gate_alloc rfl ?_); refine aAl S ?_; clear S; intro g9 w9 z9 S) | ((with_reducible refine gate_load rfl ?_); first | refine aLd S ?_ | refine aPt S ?_ | refine aL1 S ?_) | ((with_reducible refine gate_st rfl ?_); (first | refine aS1 S ?_ | refine aSt S ?_ | refine aSp S ?_); clear S; intro w9 S))
    (refine Sep.ret1_1 S rfl rfl memA Try.underlying33 rfl ts33 rfl rfl ?_)
    rw [E.out, EC.out]
    exact ⟨_, _, rfl, S.sub subA⟩
  · have G4 := Lib.hid g4
    have E := Lib.hid (show tellOk c s ((m : Int) + 1) = true by rw [LV.out]; rfl)
    have EC := Lib.hid (show tellC c s ((m : Int) + 1) = settleCh c m p true by exact LC.out E.out)
    clear g4 OG
    go_enter Try.func114, Try.ntmps114
    go_wp2_with (first
      | ((with_reducible refine gate_dst (N := 3) rfl ?_); refine aBx S ?_; clear S; intro gA w9 z9 S)
      | ((with_reducible refine gate_dst (N := 4) rfl ?_); refine aBx S ?_; clear S; intro gB w9 z9 S)
      | (go_at_call 134; (with_reducible refine (l13Mine_c _ c _ (S.rd (d := tCh) (F := F1 ++ (F2 ++ (F3 ++ F4))) memA) HC.out ((m : Int) + 1) HM.out).mono ?_); rintro e w9 ⟨rfl, f9⟩; replace S := S.fr f9; clear f9)
      | ((with_reducible refine gate_dst (N := 18) rfl ?_); go_loud (refine aRc (S.frame.cell G4.out) ?_))
      | ((with_reducible refine gate_box rfl ?_); refine aBx S ?_; clear S; intro g9 w9 z9 S) | ((with_reducible refine gate_alloc rfl ?_); refine aAl S ?_; clear S; intro g9 w9 z9 S) | ((with_reducible refine gate_load rfl ?_); first | refine aLd S ?_ | refine aPt S ?_ | refine aL1 S ?_) | ((with_reducible refine gate_st rfl ?_); (first | refine aS1 S ?_ | refine aSt S ?_ | refine aSp S ?_); clear S; intro w9 S))
    have S0 := (Sep.only2 (a1 := aBox gB 30 _ _) (a2 := aBox gA 33 _ _) S delA delA)
    refine wp_region_noPanic ?_
    refine wp_region_held_drew (S := Sep _ _ _) (by kernel_rfl) S0.drew (fun _ => ?_)
    replace S := S.drew
    clear S0
    refine tk 0 ?_
    (try simp only [Act.put, List.setIfInBounds_toArray, List.set_cons_zero, List.set_cons_succ])
    refine tk 1 ?_
    (try simp only [Act.put, List.setIfInBounds_toArray, List.set_cons_zero, List.set_cons_succ])
    refine tk 2 ?_
    (try simp only [Act.put, List.setIfInBounds_toArray, List.set_cons_zero, List.set_cons_succ])
    refine tk 3 ?_
    (try simp only [Act.put, List.setIfInBounds_toArray, List.set_cons_zero, List.set_cons_succ])
    refine tk 4 ?_
    (try simp only [Act.put, List.setIfInBounds_toArray, List.set_cons_zero, List.set_cons_succ])
    refine tk 5 ?_
    (try simp only [Act.put, List.setIfInBounds_toArray, List.set_cons_zero, List.set_cons_succ])
    refine tk 6 ?_
    (try simp only [Act.put, List.setIfInBounds_toArray, List.set_cons_zero, List.set_cons_succ])
    refine tk 7 ?_ (hy := by exact yRc (fun w' h => h.frame.cell G4.out))
    (try simp only [Act.put, List.setIfInBounds_toArray, List.set_cons_zero, List.set_cons_succ])
    refine tk 8 ?_
    (try simp only [Act.put, List.setIfInBounds_toArray, List.set_cons_zero, List.set_cons_succ])
    refine rdy1 9 (fun K hK => ?_)
    go_simp; (skip; go_at_call 135; (with_reducible refine (l13Settle_c _ c _ (F1 ++ (F2 ++ (F3 ++ F4))) (S.ownOk memA) HC.out m HL.out p HP.out true).mono ?_); rintro e w9 ⟨cs9, F9, rfl, T9⟩; replace S := S.callCh1 delA T9; clear T9)
    (first | refine hK.out _ _ (S.sub subA) (fun _ => ?_) | (go_wp2_with fail; refine hK.out _ _ (S.sub subA) (fun _ => ?_)))
    clear hK K
    (try simp only [Act.put, List.setIfInBounds_toArray, List.set_cons_zero, List.set_cons_succ])
    refine rdy1 10 (fun K hK => ?_)
    (first | refine rgS1 S ?_ | refine rgSt S ?_ | refine rgSp S ?_); clear S; intro w9 S
    (first | refine hK.out _ _ (S.sub subA) (fun _ => ?_) | (go_wp2_with fail; refine hK.out _ _ (S.sub subA) (fun _ => ?_)))
    clear hK K
    (try simp only [Act.put, List.setIfInBounds_toArray, List.set_cons_zero, List.set_cons_succ])
    refine tk 11 ?_
    (try simp only [Act.put, List.setIfInBounds_toArray, List.set_cons_zero, List.set_cons_succ])
    refine wpAnyH_done (by kernel_rfl) ?_ _
    refine NoPanic.normal ?_
    go_wp2_with (first | ((with_reducible refine gate_box rfl ?_); refine aBx S ?_; clear S; intro g9 w9 z9 S) | ((with_reducible refine gate_alloc rfl ?_); refine aAl S ?_; clear S; intro g9 w9 z9 S) | ((with_reducible refine gate_load rfl ?_); first | refine aLd S ?_ | refine aPt S ?_ | refine aL1 S ?_) | ((with_reducible refine gate_st rfl ?_); (first | refine aS1 S ?_ | refine aSt S ?_ | refine aSp S ?_); clear S; intro w9 S))
    (refine Sep.ret1_1 S rfl rfl memA Try.underlying33 rfl ts33 rfl rfl ?_)
    rw [E.out, EC.out]
    exact ⟨_, _, rfl, S.sub subA⟩
end Go.Proofs.Ytapdcgjccckjeaa
namespace Go.Proofs.Ytapdcgjccckjeaa
set_option maxRecDepth 100000
set_option linter.unusedVariables false
set_option linter.unusedSimpArgs false
open Go.RowKit
theorem settled_mine2 {c : Ch} (hc : okSt c.st = true) {n : Int} {r : Bool} (h : mineV c n = r) : (settled c.st n == 1) = r := by
  have := settled_mine hc h
  cases r <;> simpa [bne] using this
set_option maxHeartbeats 6400000 in
theorem mayTell_c (w0 w : World) (L : List Asrt) (g : Nat) (c : Ch) (F : List Nat) (S : Sep [] w0 (aLnk g c F :: L) w) (hc : okCh c = true) (s : St) (v1 v2 v3 v4 : Value) (h2 : tSt.rd w0 s [.int .i64 s.way, .int .i64 s.vsn, .int .i64 s.want, v1, v2, v3, v4]) (hs : okSt s = true) (h n : Int) (bn : I64 n) :
    Calls Try.prog 138 #[.pointer (some ⟨g, 0, none⟩), .agg #[.int .i64 s.way, .int .i64 s.vsn, .int .i64 s.want, v1, v2, v3, v4, .int .i64 h], .int .i64 n] w fun e w' => e = .returned (.bool (tellOk c s n)) ∧ ∃ F', Sep [] w0 (aLnk g c F' :: L) w' := by
  obtain ⟨t1, t2, t3, t4, _⟩ := tSt_rows h2
  obtain ⟨D1, l1, rfl⟩ := t1.val
  obtain ⟨D2, l2, rfl⟩ := t2.val
  obtain ⟨D3, l3, rfl⟩ := t3.val
  obtain ⟨D4, l4, rfl⟩ := t4.val
  obtain ⟨A1, m1, A2, m2, B1, n1, B2, n2, B3, n3, B4, n4, q, A5, m5, Y1, Y2, Z1, Z2, Z3, Z4, M1, K1, I9, J9, h15, S9⟩ := S.openLnk
  replace S := S9
  clear S9
  have q3 := (okCh_parts hc).2.2.1
  have ll := okSt_len q3
  have lg := (okSt_len hs).2.2.2
  cases hm : mineV c n with
  | false =>
    have E := Lib.hid (show tellOk c s n = false by unfold tellOk; rw [hm]; rfl)
    have d1 : (settled c.st n == 1) = false := settled_mine2 q3 hm
    clear hm hc ll lg q3 hs
    go_enter Try.func138, Try.ntmps138
    go_wp2_with (first
      | (go_at_call 152; (with_reducible refine (StateSettled_c _ c.st _ (tSt_mk (S.row (d := tPk) (xs := c.st.sent) (F := Z1) (e := 88) memA).row (S.row (d := tBool) (xs := c.st.live) (F := Z2) (e := 4) memA).row (S.row (d := tBool) (xs := c.st.back) (F := Z3) (e := 4) memA).row (S.row (d := tInt) (xs := c.st.got) (F := Z4) (e := 3) memA).row J9) n).mono ?_); rintro e w9 ⟨rfl, f9⟩; replace S := S.fr f9; clear f9)
      | ((with_reducible refine gate_box rfl ?_); refine aBx S ?_; clear S; intro g9 w9 z9 S) | ((with_reducible refine gate_alloc rfl ?_); refine aAl S ?_; clear S; intro g9 w9 z9 S) | ((with_reducible refine gate_load rfl ?_); first | refine aLd S ?_ | refine aPt S ?_ | refine aL1 S ?_) | ((with_reducible refine gate_st rfl ?_); (first | refine aS1 S ?_ | refine aSt S ?_ | refine aSp S ?_); clear S; intro w9 S))
    go_ret
    rw [E.out]
    exact ⟨rfl, _, (S.allLnk c I9 J9 h15).sub subA⟩
  | true =>
  have d1 : (settled c.st n == 1) = true := settled_mine2 q3 hm
  have hin := mineV_in hm
  obtain ⟨m, rfl⟩ : ∃ m : Nat, n = (m : Int) + 1 := ⟨(n - 1).toNat, by omega⟩
  have hl4 : m < s.got.length := by omega
  obtain ⟨gv, hgv⟩ : ∃ gv, s.got[m] = gv := ⟨_, rfl⟩
  have GA := Lib.hid (show s.got.getD ((m : Int) + 1 - 1).toNat 0 = gv by rw [show ((m : Int) + 1 - 1).toNat = m by omega, List.getD_eq_getElem?_getD, List.getElem?_eq_getElem hl4]; exact hgv)
  have LV := Lib.hid (show tellOk c s ((m : Int) + 1) = !(decide (gv = 0)) by unfold tellOk; rw [hm, GA.out, Bool.true_and])
  have OG := okSt_got hs m hl4
  rw [hgv] at OG
  have H2 := Lib.hid h2
  have H4 := Lib.hid hl4
  have H8 := Lib.hid lg
  clear hin h2 hc hs ll lg q3 hm
  rcases (by omega : gv = 0 ∨ gv = 1 ∨ gv = 2) with rfl | rfl | rfl
  · have HG := Lib.hid (show s.got[m]'H4.out = 0 from hgv)
    have E := Lib.hid (show tellOk c s ((m : Int) + 1) = false by rw [LV.out]; rfl)
    clear OG hgv
    go_enter Try.func138, Try.ntmps138
    go_wp2_with (first
      | (go_at_call 152; (with_reducible refine (StateSettled_c _ c.st _ (tSt_mk (S.row (d := tPk) (xs := c.st.sent) (F := Z1) (e := 88) memA).row (S.row (d := tBool) (xs := c.st.live) (F := Z2) (e := 4) memA).row (S.row (d := tBool) (xs := c.st.back) (F := Z3) (e := 4) memA).row (S.row (d := tInt) (xs := c.st.got) (F := Z4) (e := 3) memA).row J9) ((m : Int) + 1)).mono ?_); rintro e w9 ⟨rfl, f9⟩; replace S := S.fr f9; clear f9)
      | (go_at_call 153; (with_reducible refine (fateAt_0 _ s _ (tSt.fr S.frame H2.out) m H4.out H8.out HG.out).mono ?_); rintro e w9 ⟨rfl, f9⟩; replace S := S.fr f9; clear f9)
      | (go_at_call 177; (with_reducible refine (settledN_c _).mono ?_); rintro e w9 ⟨rfl, f9⟩; replace S := S.fr f9; clear f9)
      | ((with_reducible refine gate_box rfl ?_); refine aBx S ?_; clear S; intro g9 w9 z9 S) | ((with_reducible refine gate_alloc rfl ?_); refine aAl S ?_; clear S; intro g9 w9 z9 S) | ((with_reducible refine gate_load rfl ?_); first | refine aLd S ?_ | refine aPt S ?_ | refine aL1 S ?_) | ((with_reducible refine gate_st rfl ?_); (first | refine aS1 S ?_ | refine aSt S ?_ | refine aSp S ?_); clear S; intro w9 S))
    go_ret
    rw [E.out]
    exact ⟨rfl, _, (S.allLnk c I9 J9 h15).sub subA⟩
  · have HG := Lib.hid (show s.got[m]'H4.out = 1 from hgv)
    have E := Lib.hid (show tellOk c s ((m : Int) + 1) = true by rw [LV.out]; rfl)
    clear OG hgv
    go_enter Try.func138, Try.ntmps138
    go_wp2_with (first
      | (go_at_call 152; (with_reducible refine (StateSettled_c _ c.st _ (tSt_mk (S.row (d := tPk) (xs := c.st.sent) (F := Z1) (e := 88) memA).row (S.row (d := tBool) (xs := c.st.live) (F := Z2) (e := 4) memA).row (S.row (d := tBool) (xs := c.st.back) (F := Z3) (e := 4) memA).row (S.row (d := tInt) (xs := c.st.got) (F := Z4) (e := 3) memA).row J9) ((m : Int) + 1)).mono ?_); rintro e w9 ⟨rfl, f9⟩; replace S := S.fr f9; clear f9)
      | (go_at_call 153; (with_reducible refine (fateAt_1 _ s _ (tSt.fr S.frame H2.out) m H4.out H8.out HG.out).mono ?_); rintro e w9 ⟨rfl, f9⟩; replace S := S.fr f9; clear f9)
      | (go_at_call 178; (with_reducible refine (settledO_c _).mono ?_); rintro e w9 ⟨rfl, f9⟩; replace S := S.fr f9; clear f9)
      | ((with_reducible refine gate_box rfl ?_); refine aBx S ?_; clear S; intro g9 w9 z9 S) | ((with_reducible refine gate_alloc rfl ?_); refine aAl S ?_; clear S; intro g9 w9 z9 S) | ((with_reducible refine gate_load rfl ?_); first | refine aLd S ?_ | refine aPt S ?_ | refine aL1 S ?_) | ((with_reducible refine gate_st rfl ?_); (first | refine aS1 S ?_ | refine aSt S ?_ | refine aSp S ?_); clear S; intro w9 S))
    go_ret
    rw [E.out]
    exact ⟨rfl, _, (S.allLnk c I9 J9 h15).sub subA⟩
  · have HG := Lib.hid (show s.got[m]'H4.out = 2 from hgv)
    have E := Lib.hid (show tellOk c s ((m : Int) + 1) = true by rw [LV.out]; rfl)
    clear OG hgv
    go_enter Try.func138, Try.ntmps138
    go_wp2_with (first
      | (go_at_call 152; (with_reducible refine (StateSettled_c _ c.st _ (tSt_mk (S.row (d := tPk) (xs := c.st.sent) (F := Z1) (e := 88) memA).row (S.row (d := tBool) (xs := c.st.live) (F := Z2) (e := 4) memA).row (S.row (d := tBool) (xs := c.st.back) (F := Z3) (e := 4) memA).row (S.row (d := tInt) (xs := c.st.got) (F := Z4) (e := 3) memA).row J9) ((m : Int) + 1)).mono ?_); rintro e w9 ⟨rfl, f9⟩; replace S := S.fr f9; clear f9)
      | (go_at_call 153; (with_reducible refine (fateAt_2 _ s _ (tSt.fr S.frame H2.out) m H4.out H8.out HG.out).mono ?_); rintro e w9 ⟨rfl, f9⟩; replace S := S.fr f9; clear f9)
      | (go_at_call 179; (with_reducible refine (settledB_c _).mono ?_); rintro e w9 ⟨rfl, f9⟩; replace S := S.fr f9; clear f9)
      | ((with_reducible refine gate_box rfl ?_); refine aBx S ?_; clear S; intro g9 w9 z9 S) | ((with_reducible refine gate_alloc rfl ?_); refine aAl S ?_; clear S; intro g9 w9 z9 S) | ((with_reducible refine gate_load rfl ?_); first | refine aLd S ?_ | refine aPt S ?_ | refine aL1 S ?_) | ((with_reducible refine gate_st rfl ?_); (first | refine aS1 S ?_ | refine aSt S ?_ | refine aSp S ?_); clear S; intro w9 S))
    go_ret
    rw [E.out]
    exact ⟨rfl, _, (S.allLnk c I9 J9 h15).sub subA⟩
set_option maxHeartbeats 6400000 in
theorem tell_c (w0 w : World) (L : List Asrt) (g : Nat) (c : Ch) (F : List Nat) (S : Sep [] w0 (aLnk g c F :: L) w) (hc : okCh c = true) (s : St) (v1 v2 v3 v4 : Value) (h2 : tSt.rd w0 s [.int .i64 s.way, .int .i64 s.vsn, .int .i64 s.want, v1, v2, v3, v4]) (hs : okSt s = true) (h n : Int) (bn : I64 n) :
    Calls Try.prog 115 #[.pointer (some ⟨g, 0, none⟩), .agg #[.int .i64 s.way, .int .i64 s.vsn, .int .i64 s.want, v1, v2, v3, v4, .int .i64 h], .int .i64 n] w fun e w' => e = .returned (.bool (tellOk c s n)) ∧ ∃ F', Sep [] w0 (aLnk g (tellC c s n) F' :: L) w' := by
  have o1 := tSt_rd_one h2
  have HC := Lib.hid hc
  have HS := Lib.hid hs
  have H2 := Lib.hid h2
  have BN := Lib.hid bn
  cases e : tellOk c s n with
  | false =>
    have E := Lib.hid e
    have EC := Lib.hid (show tellC c s n = c by unfold tellC; rw [e]; rfl)
    clear e hc hs h2 bn
    go_enter Try.func115, Try.ntmps115
    go_wp2_with (first
      | (go_at_call 138; go_loud ((with_reducible refine (mayTell_c w0 _ _ g c F (S.pull (a := aLnk g c F) delA) HC.out s v1 v2 v3 v4 H2.out HS.out h n BN.out).mono ?_); rintro e w9 ⟨rfl, F9, T9⟩; rw [E.out]; replace S := T9; clear T9))
      | ((with_reducible refine gate_box rfl ?_); refine aBx S ?_; clear S; intro g9 w9 z9 S) | ((with_reducible refine gate_alloc rfl ?_); refine aAl S ?_; clear S; intro g9 w9 z9 S) | ((with_reducible refine gate_load rfl ?_); first | refine aLd S ?_ | refine aPt S ?_ | refine aL1 S ?_) | ((with_reducible refine gate_st rfl ?_); (first | refine aS1 S ?_ | refine aSt S ?_ | refine aSp S ?_); clear S; intro w9 S))
    go_ret
    rw [EC.out]
    exact ⟨rfl, _, S.sub subA⟩
  | true =>
    have hm : mineV c n = true := by unfold tellOk at e; rw [Bool.and_eq_true] at e; exact e.1
    have hin := mineV_in hm
    obtain ⟨m, rfl⟩ : ∃ m : Nat, n = (m : Int) + 1 := ⟨(n - 1).toNat, by omega⟩
    have hlt : m < c.st.sent.length := by omega
    obtain ⟨p, hp⟩ : ∃ p, c.st.sent[m] = p := ⟨_, rfl⟩
    have PA : pkAt c ((m : Int) + 1) = p := by unfold pkAt; rw [show ((m : Int) + 1 - 1).toNat = m by omega, List.getD_eq_getElem?_getD, List.getElem?_eq_getElem hlt]; exact hp
    have lg := (okSt_len hs).2.2.2
    obtain ⟨q1, q2, q3, q4, q5, q6⟩ := okCh_parts hc
    have ll := okSt_len q3
    have hl4 : m < s.got.length := by omega
    obtain ⟨gv, hgv⟩ : ∃ gv, s.got.getD m 0 = gv := ⟨_, rfl⟩
    have GV : gotV s ((m : Int) + 1) = gv := by unfold gotV; rw [if_pos ⟨hs, by omega, by omega⟩, show ((m : Int) + 1 - 1).toNat = m by omega, hgv]
    have E := Lib.hid e
    have EC0 : tellC c s ((m : Int) + 1) = settleCh c m p (decide (gv = 2)) := by unfold tellC; rw [e, PA, show ((m : Int) + 1 - 1).toNat = m by omega, hgv]; rfl
    have HB := Lib.hid q2
    have OP := Lib.hid (show okPk p = true from hp ▸ sent_okPk q3 m hlt)
    have HL := Lib.hid hlt
    have HP := Lib.hid (show c.st.sent[m]'HL.out = p from hp)
    have M7 := Lib.hid (show m < c.st.live.length by omega)
    have M8 := Lib.hid (show m < c.st.back.length by omega)
    have L8 := Lib.hid ll.1
    have L7 := Lib.hid (show (c.st.live.set m false).length = c.st.live.length by simp)
    have p0 : (0 : Int) ≤ (m : Int) := Int.natCast_nonneg _
    have p2 : (m : Int) < (c.st.live.length : Int) := by omega
    have w1 : IntKind.i64.wrap ((m : Int) + 1 - 1) = (m : Int) := by rw [Int.add_sub_cancel]; exact IntWalk.i64_in _ (by omega)
    have w2 : IntKind.i64.wrap (m : Int) = (m : Int) := IntWalk.i64_in _ (by omega)
    clear e hm hin hp PA hc hs h2 bn q1 q2 q3 q4 q5 q6 ll hgv lg hl4
    by_cases hb : gv = 2
    · have D := Lib.hid GV
      have d5 : (gotV s ((m : Int) + 1) == 2) = true := by rw [D.out]; rw [hb]; rfl
      have EC := Lib.hid (show tellC c s ((m : Int) + 1) = refC ⟨c.id, c.bank, ⟨c.st.way, c.st.vsn, c.st.want, c.st.sent, c.st.live.set m false, c.st.back, c.st.got⟩, c.past, c.knows⟩ m p by rw [EC0, decide_eq_true hb]; rfl)
      clear EC0 GV hb
      go_enter Try.func115, Try.ntmps115
      go_wp2_with (first
        | (go_at_call 138; go_loud ((with_reducible refine (mayTell_c w0 _ _ g c F (S.pull (a := aLnk g c F) delA) HC.out s v1 v2 v3 v4 H2.out HS.out h ((m : Int) + 1) BN.out).mono ?_); rintro e w9 ⟨rfl, F9, T9⟩; rw [E.out]; obtain ⟨A1, m1, A2, m2, B1, n1, B2, n2, B3, n3, B4, n4, q, A5, m5, Y1, Y2, Z1, Z2, Z3, Z4, M1, K1, I9, J9, h15, S9⟩ := T9.openLnk; obtain ⟨g7, r7, e7⟩ := (S9.row (d := tBool) (xs := c.st.live) (F := Z2) (e := 4) memA).shape (Nat.lt_of_le_of_lt (Nat.zero_le _) M7.out); simp only [Value.slice.injEq, true_and] at e7; obtain ⟨rfl, rfl⟩ := e7; replace S := S9; clear S9 T9))
        | ((with_reducible refine gate_store (p := 19) rfl ?_); go_loud (refine aElP (d := tBool) (xs := c.st.live) (x := false) (k := m) S delA (el1_bool false) M7.out ?_); clear S; intro G7 w9 S; rw [← L7.out] at S; replace S := S.allLnk ⟨c.id, c.bank, ⟨c.st.way, c.st.vsn, c.st.want, c.st.sent, c.st.live.set m false, c.st.back, c.st.got⟩, c.past, c.knows⟩ I9 J9 h15)
        | (go_at_call 139; (with_reducible refine (StateGot_c _ s _ (tSt.fr S.frame H2.out) ((m : Int) + 1)).mono ?_); rintro e w9 ⟨rfl, f9⟩; replace S := S.fr f9; clear f9)
        | (go_at_call 137; go_loud ((with_reducible refine (refund_c _ g ⟨c.id, c.bank, ⟨c.st.way, c.st.vsn, c.st.want, c.st.sent, c.st.live.set m false, c.st.back, c.st.got⟩, c.past, c.knows⟩ _ (S.lnk memA) HB.out m HL.out p HP.out OP.out M8.out L8.out).mono ?_); rintro e w9 ⟨rfl, F8, T9⟩; replace S := S.callLnk1 delA T9; clear T9))
        | ((with_reducible refine gate_box rfl ?_); refine aBx S ?_; clear S; intro g9 w9 z9 S) | ((with_reducible refine gate_alloc rfl ?_); refine aAl S ?_; clear S; intro g9 w9 z9 S) | ((with_reducible refine gate_load rfl ?_); first | refine aLd S ?_ | refine aPt S ?_ | refine aL1 S ?_) | ((with_reducible refine gate_st rfl ?_); (first | refine aS1 S ?_ | refine aSt S ?_ | refine aSp S ?_); clear S; intro w9 S))
      go_ret
      rw [EC.out]
      exact ⟨rfl, _, S.sub subA⟩
    · have D := Lib.hid GV
      have d5 : (gotV s ((m : Int) + 1) == 2) = false := by rw [D.out]; simpa using hb
      have EC := Lib.hid (show tellC c s ((m : Int) + 1) = ⟨c.id, c.bank, ⟨c.st.way, c.st.vsn, c.st.want, c.st.sent, c.st.live.set m false, c.st.back, c.st.got⟩, c.past, c.knows⟩ by rw [EC0, decide_eq_false hb]; rfl)
      clear EC0 GV hb
      go_enter Try.func115, Try.ntmps115
      go_wp2_with (first
        | (go_at_call 138; go_loud ((with_reducible refine (mayTell_c w0 _ _ g c F (S.pull (a := aLnk g c F) delA) HC.out s v1 v2 v3 v4 H2.out HS.out h ((m : Int) + 1) BN.out).mono ?_); rintro e w9 ⟨rfl, F9, T9⟩; rw [E.out]; obtain ⟨A1, m1, A2, m2, B1, n1, B2, n2, B3, n3, B4, n4, q, A5, m5, Y1, Y2, Z1, Z2, Z3, Z4, M1, K1, I9, J9, h15, S9⟩ := T9.openLnk; obtain ⟨g7, r7, e7⟩ := (S9.row (d := tBool) (xs := c.st.live) (F := Z2) (e := 4) memA).shape (Nat.lt_of_le_of_lt (Nat.zero_le _) M7.out); simp only [Value.slice.injEq, true_and] at e7; obtain ⟨rfl, rfl⟩ := e7; replace S := S9; clear S9 T9))
        | ((with_reducible refine gate_store (p := 19) rfl ?_); go_loud (refine aElP (d := tBool) (xs := c.st.live) (x := false) (k := m) S delA (el1_bool false) M7.out ?_); clear S; intro G7 w9 S; rw [← L7.out] at S; replace S := S.allLnk ⟨c.id, c.bank, ⟨c.st.way, c.st.vsn, c.st.want, c.st.sent, c.st.live.set m false, c.st.back, c.st.got⟩, c.past, c.knows⟩ I9 J9 h15)
        | (go_at_call 139; (with_reducible refine (StateGot_c _ s _ (tSt.fr S.frame H2.out) ((m : Int) + 1)).mono ?_); rintro e w9 ⟨rfl, f9⟩; replace S := S.fr f9; clear f9)
        | (go_at_call 137; go_loud ((with_reducible refine (refund_c _ g ⟨c.id, c.bank, ⟨c.st.way, c.st.vsn, c.st.want, c.st.sent, c.st.live.set m false, c.st.back, c.st.got⟩, c.past, c.knows⟩ _ (S.lnk memA) HB.out m HL.out p HP.out OP.out M8.out L8.out).mono ?_); rintro e w9 ⟨rfl, F8, T9⟩; replace S := S.callLnk1 delA T9; clear T9))
        | ((with_reducible refine gate_box rfl ?_); refine aBx S ?_; clear S; intro g9 w9 z9 S) | ((with_reducible refine gate_alloc rfl ?_); refine aAl S ?_; clear S; intro g9 w9 z9 S) | ((with_reducible refine gate_load rfl ?_); first | refine aLd S ?_ | refine aPt S ?_ | refine aL1 S ?_) | ((with_reducible refine gate_st rfl ?_); (first | refine aS1 S ?_ | refine aSt S ?_ | refine aSp S ?_); clear S; intro w9 S))
      go_ret
      rw [EC.out]
      exact ⟨rfl, _, S.sub subA⟩
end Go.Proofs.Ytapdcgjccckjeaa
namespace Go.Proofs.Ytapdcgjccckjeaa
set_option maxRecDepth 100000
set_option linter.unusedVariables false
set_option linter.unusedSimpArgs false
open Go.RowKit
def tellV (c : Ch) (s : St) (n : Int) : Ch × Bool := if okCh c = true ∧ okSt s = true then (tellC c s n, tellOk c s n) else (nilCh, false)
theorem tellV_no {c : Ch} {s : St} {n : Int} (k : ¬ (okCh c = true ∧ okSt s = true)) : tellV c s n = (nilCh, false) := if_neg k
theorem tellC_past (c : Ch) (s : St) (n : Int) : (tellC c s n).past = c.past := by
  unfold tellC
  split <;> rfl
set_option maxHeartbeats 6400000 in
theorem RelayTell_c (w : World) (c : Ch) (s : St) (c1 c2 : List Value) (h1 : tCh.rd w c c1) (h2 : tSt.rd w s c2) (n : Int) (bn : I64 n) : Calls Try.prog 55 #[.agg c1.toArray, .agg c2.toArray, .int .i64 n] w (RetOwn2 tCh (tellV c s n) w) := by
  have S := Sep.start w
  have FIN := Lib.hid (fun (W : World) (f : Fr w W) => tCh.fr f h1)
  have FI2 := Lib.hid (fun (W : World) (f : Fr w W) => tSt.fr f h2)
  have LN := Lib.hid (show c1.length = 13 from tCh.len h1)
  have n1 := tCh_rd_one' h1
  have n2 := tSt_rd_one h2
  have BN := Lib.hid bn
  obtain ⟨v1, v2, v3, v4, rfl, _⟩ := id h2
  have H2 := Lib.hid h2
  cases o1 : okCh c with
  | false =>
    have R := Lib.hid (tellV_no (c := c) (s := s) (n := n) (by rw [o1]; simp))
    have O1 := Lib.hid o1
    clear o1 h1 h2 bn
    go_enter Try.func55, Try.ntmps55
    go_wp2_with (first | (go_at_call 19; (with_reducible refine (ChainOk_r _ c _ (FIN.out _ S.frame) O1.out).mono ?_); rintro e w9 ⟨rfl, f9⟩; replace S := S.fr f9; clear f9) | ((with_reducible refine gate_box rfl ?_); refine aBx S ?_; clear S; intro g9 w9 z9 S) | ((with_reducible refine gate_alloc rfl ?_); refine aAl S ?_; clear S; intro g9 w9 z9 S) | ((with_reducible refine gate_load rfl ?_); first | refine aLd S ?_ | refine aPt S ?_ | refine aL1 S ?_) | ((with_reducible refine gate_st rfl ?_); (first | refine aS1 S ?_ | refine aSt S ?_ | refine aSp S ?_); clear S; intro w9 S))
    have S := S.nilCh
    (refine Sep.ret1_1 S rfl rfl memA Try.underlying33 rfl ts33 rfl rfl ?_)
    rw [R.out]
    exact S.retOwn2 List.mem_cons_self
  | true =>
  have O1 := Lib.hid o1
  cases o2 : okSt s with
  | false =>
    have R := Lib.hid (tellV_no (c := c) (s := s) (n := n) (by rw [o2]; simp))
    have O2 := Lib.hid o2
    clear o1 o2 h1 h2 bn
    go_enter Try.func55, Try.ntmps55
    go_wp2_with (first | (go_at_call 19; (with_reducible refine (ChainOk_r _ c _ (FIN.out _ S.frame) O1.out).mono ?_); rintro e w9 ⟨rfl, f9⟩; replace S := S.fr f9; clear f9) | (go_at_call 68; (with_reducible refine (StateOk_r _ s _ (FI2.out _ S.frame) O2.out).mono ?_); rintro e w9 ⟨rfl, f9⟩; replace S := S.fr f9; clear f9) | ((with_reducible refine gate_box rfl ?_); refine aBx S ?_; clear S; intro g9 w9 z9 S) | ((with_reducible refine gate_alloc rfl ?_); refine aAl S ?_; clear S; intro g9 w9 z9 S) | ((with_reducible refine gate_load rfl ?_); first | refine aLd S ?_ | refine aPt S ?_ | refine aL1 S ?_) | ((with_reducible refine gate_st rfl ?_); (first | refine aS1 S ?_ | refine aSt S ?_ | refine aSp S ?_); clear S; intro w9 S))
    have S := S.nilCh
    (refine Sep.ret1_1 S rfl rfl memA Try.underlying33 rfl ts33 rfl rfl ?_)
    rw [R.out]
    exact S.retOwn2 List.mem_cons_self
  | true =>
  have O2 := Lib.hid o2
  have R := Lib.hid (show tellV c s n = (tellC c s n, tellOk c s n) from if_pos ⟨o1, o2⟩)
  have BL := Lib.hid (show (tellC c s n).past.length ≤ 1000000 by rw [tellC_past]; have := (okCh_parts o1).2.2.2.1; omega)
  clear o1 o2 h1 h2 bn
  go_enter Try.func55, Try.ntmps55
  go_wp2_with (first
    | (go_at_call 19; (with_reducible refine (ChainOk_r _ c _ (FIN.out _ S.frame) O1.out).mono ?_); rintro e w9 ⟨rfl, f9⟩; replace S := S.fr f9; clear f9) | (go_at_call 68; (with_reducible refine (StateOk_r _ s _ (FI2.out _ S.frame) O2.out).mono ?_); rintro e w9 ⟨rfl, f9⟩; replace S := S.fr f9; clear f9)
    | (go_at_call 104; (with_reducible refine (linkOf_c _ c _ (FIN.out _ S.frame) O1.out).mono ?_); rintro e w9 ⟨g9, F9, rfl, T9⟩; replace S := S.call01 T9; clear T9)
    | (go_at_call 115; go_loud ((with_reducible refine (tell_c w _ _ g9 c F9 (S.pull (a := aLnk g9 c F9) delA) O1.out s v1 v2 v3 v4 H2.out O2.out 0 n BN.out).mono ?_); rintro e w9 ⟨rfl, F8, T9⟩; replace S := T9; clear T9))
    | (go_at_call 65; go_loud ((with_reducible refine (chain_c _ g9 (tellC c s n) F8 (S.lnk memA) BL.out).mono ?_); rintro e w9 ⟨cs9, G9, rfl, T9⟩; replace S := S.callLnk1 delA T9; clear T9))
    | ((with_reducible refine gate_box rfl ?_); refine aBx S ?_; clear S; intro g9 w9 z9 S) | ((with_reducible refine gate_alloc rfl ?_); refine aAl S ?_; clear S; intro g9 w9 z9 S) | ((with_reducible refine gate_load rfl ?_); first | refine aLd S ?_ | refine aPt S ?_ | refine aL1 S ?_) | ((with_reducible refine gate_st rfl ?_); (first | refine aS1 S ?_ | refine aSt S ?_ | refine aSp S ?_); clear S; intro w9 S))
  (refine Sep.ret1_1 S rfl rfl memA Try.underlying33 rfl ts33 rfl rfl ?_)
  rw [R.out]
  exact S.retOwn2 memA
set_option maxHeartbeats 6400000 in
theorem sRelayTell_c (w : World) (c : Ch) (s : St) (c1 c2 : List Value) (h1 : tCh.rd w c c1) (h2 : tSt.rd w s c2) (n : Int) (bn : I64 n) : Calls Try.prog 54 #[.agg c1.toArray, .agg c2.toArray, .int .i64 n] w (RetOwn2 tCh (tellV c s n) w) := by
  have S := Sep.start w
  have FIN := Lib.hid (fun (W : World) (f : Fr w W) => tCh.fr f h1)
  have FI2 := Lib.hid (fun (W : World) (f : Fr w W) => tSt.fr f h2)
  have LN := Lib.hid (show c1.length = 13 from tCh.len h1)
  have n1 := tCh_rd_one' h1
  have n2 := tSt_rd_one h2
  have BN := Lib.hid bn
  obtain ⟨v1, v2, v3, v4, rfl, _⟩ := id h2
  have H2 := Lib.hid h2
  cases o1 : okCh c with
  | false =>
    have R := Lib.hid (tellV_no (c := c) (s := s) (n := n) (by rw [o1]; simp))
    have O1 := Lib.hid o1
    clear o1 h1 h2 bn
    go_enter Try.func54, Try.ntmps54
    go_wp2_with (first | (go_at_call 33; (with_reducible refine (sChainOk_r _ c _ (FIN.out _ S.frame) O1.out).mono ?_); rintro e w9 ⟨rfl, f9⟩; replace S := S.fr f9; clear f9) | ((with_reducible refine gate_box rfl ?_); refine aBx S ?_; clear S; intro g9 w9 z9 S) | ((with_reducible refine gate_alloc rfl ?_); refine aAl S ?_; clear S; intro g9 w9 z9 S) | ((with_reducible refine gate_load rfl ?_); first | refine aLd S ?_ | refine aPt S ?_ | refine aL1 S ?_) | ((with_reducible refine gate_st rfl ?_); (first | refine aS1 S ?_ | refine aSt S ?_ | refine aSp S ?_); clear S; intro w9 S))
    have S := S.nilCh
    (refine Sep.ret1_1 S rfl rfl memA Try.underlying33 rfl ts33 rfl rfl ?_)
    rw [R.out]
    exact S.retOwn2 List.mem_cons_self
  | true =>
  have O1 := Lib.hid o1
  cases o2 : okSt s with
  | false =>
    have R := Lib.hid (tellV_no (c := c) (s := s) (n := n) (by rw [o2]; simp))
    have O2 := Lib.hid o2
    clear o1 o2 h1 h2 bn
    go_enter Try.func54, Try.ntmps54
    go_wp2_with (first | (go_at_call 33; (with_reducible refine (sChainOk_r _ c _ (FIN.out _ S.frame) O1.out).mono ?_); rintro e w9 ⟨rfl, f9⟩; replace S := S.fr f9; clear f9) | (go_at_call 88; (with_reducible refine (sStateOk_r _ s _ (FI2.out _ S.frame) O2.out).mono ?_); rintro e w9 ⟨rfl, f9⟩; replace S := S.fr f9; clear f9) | ((with_reducible refine gate_box rfl ?_); refine aBx S ?_; clear S; intro g9 w9 z9 S) | ((with_reducible refine gate_alloc rfl ?_); refine aAl S ?_; clear S; intro g9 w9 z9 S) | ((with_reducible refine gate_load rfl ?_); first | refine aLd S ?_ | refine aPt S ?_ | refine aL1 S ?_) | ((with_reducible refine gate_st rfl ?_); (first | refine aS1 S ?_ | refine aSt S ?_ | refine aSp S ?_); clear S; intro w9 S))
    have S := S.nilCh
    (refine Sep.ret1_1 S rfl rfl memA Try.underlying33 rfl ts33 rfl rfl ?_)
    rw [R.out]
    exact S.retOwn2 List.mem_cons_self
  | true =>
  have O2 := Lib.hid o2
  have R := Lib.hid (show tellV c s n = (tellC c s n, tellOk c s n) from if_pos ⟨o1, o2⟩)
  clear o1 o2 h1 h2 bn
  go_enter Try.func54, Try.ntmps54
  go_wp2_with (first | (go_at_call 33; (with_reducible refine (sChainOk_r _ c _ (FIN.out _ S.frame) O1.out).mono ?_); rintro e w9 ⟨rfl, f9⟩; replace S := S.fr f9; clear f9) | (go_at_call 88; (with_reducible refine (sStateOk_r _ s _ (FI2.out _ S.frame) O2.out).mono ?_); rintro e w9 ⟨rfl, f9⟩; replace S := S.fr f9; clear f9) | ((with_reducible refine gate_box rfl ?_); refine aBx S ?_; clear S; intro g9 w9 z9 S) | ((with_reducible refine gate_alloc rfl ?_); refine aAl S ?_; clear S; intro g9 w9 z9 S) | ((with_reducible refine gate_load rfl ?_); first | refine aLd S ?_ | refine aPt S ?_ | refine aL1 S ?_) | ((with_reducible refine gate_st rfl ?_); (first | refine aS1 S ?_ | refine aSt S ?_ | refine aSp S ?_); clear S; intro w9 S))
  have S0 := S.drop
  refine wp_region_noPanic ?_
  refine wp_region_held_drew (S := Sep _ _ _) (by kernel_rfl) S0.drew (fun _ => ?_)
  replace S := S.drew
  clear S0
  refine tk 0 ?_
  (try simp only [Act.put, List.setIfInBounds_toArray, List.set_cons_zero, List.set_cons_succ])
  refine tk 2 ?_
  (try simp only [Act.put, List.setIfInBounds_toArray, List.set_cons_zero, List.set_cons_succ])
  refine tk 3 ?_
  (try simp only [Act.put, List.setIfInBounds_toArray, List.set_cons_zero, List.set_cons_succ])
  refine rdy1 1 (fun K hK => ?_)
  go_simp; (skip; go_at_call 103; (with_reducible refine (l12Copy_c _ c _ (FIN.out _ S.frame) O1.out).mono ?_); rintro e w9 ⟨cs9, F9, rfl, h9, n9, b9, f9⟩; replace S := S.new (aOwn tCh _ cs9 F9) h9 n9 b9 f9; clear h9 n9 b9 f9)
  (first | refine hK.out _ _ (S.sub subA) (fun _ => ?_) | (go_wp2_with fail; refine hK.out _ _ (S.sub subA) (fun _ => ?_)))
  clear hK K
  (try simp only [Act.put, List.setIfInBounds_toArray, List.set_cons_zero, List.set_cons_succ])
  refine rdy1 4 (fun K hK => ?_)
  go_simp; (skip; go_at_call 114; (with_reducible refine (l13Tell_c w _ _ c cs9 F9 (S.pull (a := aOwn tCh c cs9 F9) delA) O1.out s _ H2.out O2.out n BN.out).mono ?_); rintro e w9 ⟨cs8, F8, rfl, T9⟩; replace S := T9; clear T9)
  (first | refine hK.out _ _ (S.sub subA) (fun _ => ?_) | (go_wp2_with fail; refine hK.out _ _ (S.sub subA) (fun _ => ?_)))
  clear hK K
  (try simp only [Act.put, List.setIfInBounds_toArray, List.set_cons_zero, List.set_cons_succ])
  refine tk 5 ?_
  (try simp only [Act.put, List.setIfInBounds_toArray, List.set_cons_zero, List.set_cons_succ])
  refine tk 6 ?_
  (try simp only [Act.put, List.setIfInBounds_toArray, List.set_cons_zero, List.set_cons_succ])
  refine rdy1 7 (fun K hK => ?_)
  (first | refine rgS1 S ?_ | refine rgSt S ?_ | refine rgSp S ?_); clear S; intro w9 S
  (first | refine hK.out _ _ (S.sub subA) (fun _ => ?_) | (go_wp2_with fail; refine hK.out _ _ (S.sub subA) (fun _ => ?_)))
  clear hK K
  (try simp only [Act.put, List.setIfInBounds_toArray, List.set_cons_zero, List.set_cons_succ])
  refine tk 8 ?_
  (try simp only [Act.put, List.setIfInBounds_toArray, List.set_cons_zero, List.set_cons_succ])
  refine wpAnyH_done (by kernel_rfl) ?_ _
  refine NoPanic.normal ?_
  go_wp2_with (first | ((with_reducible refine gate_box rfl ?_); refine aBx S ?_; clear S; intro g9 w9 z9 S) | ((with_reducible refine gate_alloc rfl ?_); refine aAl S ?_; clear S; intro g9 w9 z9 S) | ((with_reducible refine gate_load rfl ?_); first | refine aLd S ?_ | refine aPt S ?_ | refine aL1 S ?_) | ((with_reducible refine gate_st rfl ?_); (first | refine aS1 S ?_ | refine aSt S ?_ | refine aSp S ?_); clear S; intro w9 S))
  (refine Sep.ret1_1 S rfl rfl memA Try.underlying33 rfl ts33 rfl rfl ?_)
  rw [R.out]
  exact S.retOwn2 memA
theorem tellV_small {c x : Ch} {s : St} {n : Int} {ok : Bool} (hR : tellV c s n = (x, ok)) : SmallCh x := by
  unfold tellV at hR
  split at hR
  · rename_i hc
    simp only [Prod.mk.injEq] at hR
    rw [← hR.1]
    unfold tellC
    split
    · exact settleCh_small hc.1 _ _ _
    · exact okCh_smallCh hc.1
  · simp only [Prod.mk.injEq] at hR
    rw [← hR.1]
    exact nilCh_small
theorem RelayTell_e (w : World) (c : Ch) (s : St) (c1 c2 : List Value) (h1 : tCh.rd w c c1) (h2 : tSt.rd w s c2) (n : Int) (bn : I64 n) {x : Ch} {ok : Bool} (hR : tellV c s n = (x, ok)) : Calls Try.prog 55 #[.agg c1.toArray, .agg c2.toArray, .int .i64 n] w (RetOwn2 tCh (x, ok) w) := hR ▸ RelayTell_c w c s c1 c2 h1 h2 n bn
theorem sRelayTell_e (w : World) (c : Ch) (s : St) (c1 c2 : List Value) (h1 : tCh.rd w c c1) (h2 : tSt.rd w s c2) (n : Int) (bn : I64 n) {x : Ch} {ok : Bool} (hR : tellV c s n = (x, ok)) : Calls Try.prog 54 #[.agg c1.toArray, .agg c2.toArray, .int .i64 n] w (RetOwn2 tCh (x, ok) w) := hR ▸ sRelayTell_c w c s c1 c2 h1 h2 n bn
end Go.Proofs.Ytapdcgjccckjeaa
namespace Go.Proofs.Ytapdcgjccckjeaa
set_option maxRecDepth 100000
set_option linter.unusedVariables false
set_option linter.unusedSimpArgs false
open Go.RowKit
section
variable {α : Type} {d : Ty α} {ops : Array Oper} {o : Oper} {a : Act} {Q : Exit → Act → World → Prop} {K : Act → World → Prop} {W w0 : World} {F0 : List Nat} {L L' : List Asrt}
theorem rgElP {xs : List α} {x : α} {cs : List Value} {F : List Nat} {e ty n cap g k m q : Nat} {b : Bool} {x' y' : Operand} (S : Sep F0 w0 L W) (p : Del L (aRow d e xs (.slice (some ⟨g, 0, none⟩) n cap) F) L') (hown : ∀ w, d.own w x cs []) (hk : k < xs.length)
    (h : ∀ F' w1, Sep F0 w0 (aRow d e (xs.set k x) (.slice (some ⟨g, 0, none⟩) n cap) F' :: L') w1 → K (a.put o.dst undef) w1)
    (hw : Region.wanted o (yielded ops a.tmps) = true := by exact rfl) (ho : o.op = .store ty x' y' := by exact rfl) (hi : TyInf ty b m := by exact inferInstance) (hm : m = d.sz := by exact rfl) (hx : a.eval x' = .pointer (some ⟨g, q, none⟩) := by exact rfl) (hq : q = k * m := by first | exact rfl | assumption | omega) (hy : (a.eval y').cells = cs.toArray := by exact rfl) : if Region.wanted o (yielded ops a.tmps) = true then Oper.wp Try.prog o a W K Q else K (a.put o.dst undef) W := by
  have e1 : xs = xs.take k ++ xs[k] :: xs.drop (k + 1) := by rw [set_take_drop xs k _ hk]; exact (List.set_getElem_self hk).symm
  have S1 := S.pull p
  have S2 : Sep F0 w0 (aRow d e (xs.take k ++ xs[k] :: xs.drop (k + 1)) (.slice (some ⟨g, 0, none⟩) n cap) F :: L') W := by rw [← e1]; exact S1
  have S3 := S2.new (aOwn d x cs []) (hown W) (by simp [aOwn]) (fun q hq => by cases hq) (Fr.refl _)
  refine rgEl (A := xs.take k) (x0 := xs[k]) (B := xs.drop (k + 1)) (x := x) (cs := cs) (Fx := []) (k := k) (m := m) (q := q) S3 (.tail _ (.head _ _)) (.head _ _) (by simp; omega) (fun F' w1 S4 => ?_) hw ho hi hm hx hq hy
  rw [set_take_drop xs k x hk] at S4
  exact h F' w1 S4
end
theorem el1_int (n : Int) : ∀ w, tInt.own w n [.int .i64 n] [] := fun w => ⟨rfl, rfl⟩
theorem l1Back_no (w : World) (b : Bk) (cs : List Value) (h1 : tBk.rd w b cs) (hok : okBk b = true) (k fr s : Int) (hk : 1 ≤ k ∧ k ≤ 2) (hs : 0 ≤ s ∧ s ≤ 30) (hm : bkMay b k s = false) : Calls Try.prog 151 #[.agg cs.toArray, .int .i64 k, .int .i64 fr, .int .i64 s] w (Ret (.tuple #[.agg cs.toArray, .bool false]) w) := by
  obtain ⟨v1, v2, rfl, h11, h12, h13⟩ := h1
  obtain ⟨A1, c1, rfl⟩ := h11.val
  obtain ⟨A2, c2, rfl⟩ := h12.val
  obtain ⟨q1, q2, q3, q4, q5⟩ := okBk_split hok
  have sb2 := sum_bd q2
  have Q2 := Lib.hid q2
  have H2 := Lib.hid h12
  have S := Sep.start w
  rcases (by omega : k = 1 ∨ k = 2) with rfl | rfl
  · have d1 : decide (b.locked < s) = true := decide_eq_true (by have := of_decide_eq_false (show decide (s ≤ b.locked) = false from hm); omega)
    clear hm q1 q2 q3 q4 q5 sb2 hok h12
    go_enter Try.func151, Try.ntmps151
    go_wp2_with (first | ((with_reducible refine gate_box rfl ?_); refine aBx S ?_; clear S; intro g9 w9 z9 S) | ((with_reducible refine gate_alloc rfl ?_); refine aAl S ?_; clear S; intro g9 w9 z9 S) | ((with_reducible refine gate_load rfl ?_); first | refine aLd S ?_ | refine aPt S ?_ | refine aL1 S ?_) | ((with_reducible refine gate_st rfl ?_); (first | refine aS1 S ?_ | refine aSt S ?_ | refine aSp S ?_); clear S; intro w9 S))
    (refine Sep.ret1_1 S rfl rfl memA Try.underlying26 rfl ts26 rfl rfl ?_)
    exact ⟨rfl, S.frame⟩
  · have d1 : decide (30 < b.notes.sum + s) = true := decide_eq_true (by have := of_decide_eq_false (show decide (b.notes.sum + s ≤ 30) = false from hm); omega)
    have w9 : IntKind.i64.wrap (b.notes.sum + s) = b.notes.sum + s := IntWalk.i64_in _ (by omega)
    clear hm q1 q2 q3 q4 q5 sb2 hok h12
    go_enter Try.func151, Try.ntmps151
    go_wp2_with (first
      | (go_at_call 124; (with_reducible refine (l1All_c _ _ b.notes (H2.out.fr S.frame) Q2.out).mono ?_); rintro e w9 ⟨rfl, rfl⟩)
      | ((with_reducible refine gate_box rfl ?_); refine aBx S ?_; clear S; intro g9 w9 z9 S) | ((with_reducible refine gate_alloc rfl ?_); refine aAl S ?_; clear S; intro g9 w9 z9 S) | ((with_reducible refine gate_load rfl ?_); first | refine aLd S ?_ | refine aPt S ?_ | refine aL1 S ?_) | ((with_reducible refine gate_st rfl ?_); (first | refine aS1 S ?_ | refine aSt S ?_ | refine aSp S ?_); clear S; intro w9 S))
    (refine Sep.ret1_1 S rfl rfl memA Try.underlying26 rfl ts26 rfl rfl ?_)
    exact ⟨rfl, S.frame⟩
theorem l1Back_t (w : World) (b : Bk) (cs : List Value) (F : List Nat) (h : tBk.own w b cs F ∧ F.Nodup) (hok : okBk b = true) (k fr s : Int) (hk : 1 ≤ k ∧ k ≤ 2) (hf : 1 ≤ fr ∧ fr ≤ 3) (hs : 0 ≤ s ∧ s ≤ 30) (hm : bkMay b k s = true) : Calls Try.prog 151 #[.agg cs.toArray, .int .i64 k, .int .i64 fr, .int .i64 s] w (RetIn tBk (backBk b k fr s) true F w) := by
  have := l1Back_c w b cs F h.1 h.2 hok k fr s hk hf hs.1 hs.2
  rw [if_pos hm, hm] at this
  exact this
theorem BankBack_y (w : World) (b : Bk) (c1 : List Value) (h1 : tBk.rd w b c1) (hok : okBk b = true) (k fr s : Int) (hk : 1 ≤ k ∧ k ≤ 2) (hf : 1 ≤ fr ∧ fr ≤ 3) (hs : 0 ≤ s ∧ s ≤ 30) {r : Bool} (hr : bkMay b k s = r) {x : Bk} (hx : (if r = true then backBk b k fr s else nilBk) = x) :
    Calls Try.prog 145 #[.agg c1.toArray, .int .i64 k, .int .i64 fr, .int .i64 s] w (RetOwn2 tBk (x, r) w) := by
  have h := BankBack_c w b c1 h1 k fr s (by unfold I64; omega) (by unfold I64; omega) (by unfold I64; omega)
  have e : bkOk b k fr s = r := by
    rw [bkOk_eq hok hk hf hs, ← hr]
    rfl
  unfold backR at h
  rw [e] at h
  cases r with
  | false => rw [← hx]; exact h
  | true => rw [← hx]; exact h
theorem BankBack_yt (w : World) (b : Bk) (c1 : List Value) (h1 : tBk.rd w b c1) (hok : okBk b = true) (k fr s : Int) (hk : 1 ≤ k ∧ k ≤ 2) (hf : 1 ≤ fr ∧ fr ≤ 3) (hs : 0 ≤ s ∧ s ≤ 30) (hr : bkMay b k s = true) :
    Calls Try.prog 145 #[.agg c1.toArray, .int .i64 k, .int .i64 fr, .int .i64 s] w (RetOwn2 tBk (backBk b k fr s, true) w) := BankBack_y w b c1 h1 hok k fr s hk hf hs hr rfl
theorem BankBack_yf (w : World) (b : Bk) (c1 : List Value) (h1 : tBk.rd w b c1) (hok : okBk b = true) (k fr s : Int) (hk : 1 ≤ k ∧ k ≤ 2) (hf : 1 ≤ fr ∧ fr ≤ 3) (hs : 0 ≤ s ∧ s ≤ 30) (hr : bkMay b k s = false) :
    Calls Try.prog 145 #[.agg c1.toArray, .int .i64 k, .int .i64 fr, .int .i64 s] w (RetOwn2 tBk (nilBk, false) w) := BankBack_y w b c1 h1 hok k fr s hk hf hs hr rfl
/-- What becomes of a packet that came. -/
def payOk (b : Bk) (p : Pk) : Bool := !(decide (p.dst = 0)) && bkMay b (3 - p.kind) p.sum
def payBk (b : Bk) (p : Pk) : Bk := if payOk b p = true then backBk b (3 - p.kind) p.dst p.sum else b
def payN (b : Bk) (p : Pk) : Int := if payOk b p = true then 1 else 2
def PaidR (x : Bk) (r : Int) (F : List Nat) (w : World) : Ending → World → Prop := fun e w' => ∃ cs', e = .returned (.tuple #[.agg cs'.toArray, .int .i64 r]) ∧ tBk.own w' x cs' F ∧ Chg F w w'
set_option maxHeartbeats 3200000 in
theorem l13Pay_c (w : World) (b : Bk) (p : Pk) (cs : List Value) (F : List Nat) (h : (aOwn tBk b cs F).ok w ∧ F.Nodup) (hok : okBk b = true) (ho : okPk p = true) :
    Calls Try.prog 142 #[.agg cs.toArray, .agg #[.int .i64 p.seq, .int .i64 p.kind, .int .i64 p.frm, .int .i64 p.dst, .int .i64 p.sum, .int .i64 p.til, .int .i64 p.ver]] w (PaidR (payBk b p) (payN b p) F w) := by
  have bd := okPk_iff.1 ho
  obtain ⟨sq, kd, fr, ds, sm, tl, vr⟩ := p
  simp only at bd
  have LN := Lib.hid (show cs.length = 3 from tBk.len (tBk.own_rd h.1))
  have S := Sep.startOwn (show tBk.own w b cs F from h.1) h.2
  have HB := Lib.hid hok
  have zs := Lib.hid (show 0 ≤ sm ∧ sm ≤ 30 by omega)
  by_cases e0 : ds = 0
  · subst e0
    have R1 := Lib.hid (show payBk b ⟨sq, kd, fr, 0, sm, tl, vr⟩ = b from rfl)
    have R2 := Lib.hid (show payN b ⟨sq, kd, fr, 0, sm, tl, vr⟩ = 2 from rfl)
    rcases (by omega : kd = 1 ∨ kd = 2) with rfl | rfl
    all_goals
      clear bd ho hok h
      go_enter Try.func142, Try.ntmps142
      go_wp2_with (first | ((with_reducible refine gate_box rfl ?_); refine aBx S ?_; clear S; intro g9 w9 z9 S) | ((with_reducible refine gate_alloc rfl ?_); refine aAl S ?_; clear S; intro g9 w9 z9 S) | ((with_reducible refine gate_load rfl ?_); first | refine aLd S ?_ | refine aPt S ?_ | refine aL1 S ?_) | ((with_reducible refine gate_st rfl ?_); (first | refine aS1 S ?_ | refine aSt S ?_ | refine aSp S ?_); clear S; intro w9 S))
      (refine Sep.ret1_1 S rfl rfl memA Try.underlying26 rfl ts26 rfl rfl ?_)
      rw [R1.out, R2.out]
      exact ⟨_, rfl, S.own (d := tBk) (x := b) (F := F) memA, S.chg⟩
  have d0 : (ds == 0) = false := by simpa using e0
  have zd := Lib.hid (show 1 ≤ ds ∧ ds ≤ 3 by omega)
  rcases (by omega : kd = 1 ∨ kd = 2) with rfl | rfl
  · have P0 : payOk b ⟨sq, 1, fr, ds, sm, tl, vr⟩ = bkMay b 2 sm := by unfold payOk; simp only [decide_eq_false e0]; rfl
    cases hm : bkMay b 2 sm with
    | false =>
      have R1 := Lib.hid (show payBk b ⟨sq, 1, fr, ds, sm, tl, vr⟩ = b by unfold payBk; rw [P0, hm]; rfl)
      have R2 := Lib.hid (show payN b ⟨sq, 1, fr, ds, sm, tl, vr⟩ = 2 by unfold payN; rw [P0, hm]; rfl)
      have HM := Lib.hid hm
      clear bd ho hok h P0 hm e0
      go_enter Try.func142, Try.ntmps142
      go_wp2_with (first
        | (go_at_call 151; (with_reducible refine (l1Back_no _ b _ (S.rd (d := tBk) (x := b) (F := F) memA) HB.out 2 ds sm (by decide) zs.out HM.out).mono ?_); rintro e w9 ⟨rfl, f9⟩; replace S := S.fr f9; clear f9)
        | ((with_reducible refine gate_box rfl ?_); refine aBx S ?_; clear S; intro g9 w9 z9 S) | ((with_reducible refine gate_alloc rfl ?_); refine aAl S ?_; clear S; intro g9 w9 z9 S) | ((with_reducible refine gate_load rfl ?_); first | refine aLd S ?_ | refine aPt S ?_ | refine aL1 S ?_) | ((with_reducible refine gate_st rfl ?_); (first | refine aS1 S ?_ | refine aSt S ?_ | refine aSp S ?_); clear S; intro w9 S))
      (refine Sep.ret1_1 S rfl rfl memA Try.underlying26 rfl ts26 rfl rfl ?_)
      rw [R1.out, R2.out]
      exact ⟨_, rfl, S.own (d := tBk) (x := b) (F := F) memA, S.chg⟩
    | true =>
      obtain ⟨x, hx⟩ : ∃ x, backBk b 2 ds sm = x := ⟨_, rfl⟩
      have R1 := Lib.hid (show payBk b ⟨sq, 1, fr, ds, sm, tl, vr⟩ = x by unfold payBk; rw [P0, hm, ← hx]; rfl)
      have R2 := Lib.hid (show payN b ⟨sq, 1, fr, ds, sm, tl, vr⟩ = 1 by unfold payN; rw [P0, hm]; rfl)
      have HM := Lib.hid hm
      have HX := Lib.hid hx
      clear bd ho hok h P0 hm e0 hx
      go_enter Try.func142, Try.ntmps142
      go_wp2_with (first
        | (go_at_call 151; go_loud ((with_reducible refine (l1Back_t _ b _ F (S.both memA) HB.out 2 ds sm (by decide) zd.out zs.out HM.out).mono ?_); rintro e w9 ⟨cs9, rfl, h9, c9⟩; rw [HX.out] at h9; have LN9 := Lib.hid (show cs9.length = 3 from tBk.len (tBk.own_rd h9)); replace S := S.putOwn putA h9 c9; clear h9 c9))
        | ((with_reducible refine gate_box rfl ?_); refine aBx S ?_; clear S; intro g9 w9 z9 S) | ((with_reducible refine gate_alloc rfl ?_); refine aAl S ?_; clear S; intro g9 w9 z9 S) | ((with_reducible refine gate_load rfl ?_); first | refine aLd S ?_ | refine aPt S ?_ | refine aL1 S ?_) | ((with_reducible refine gate_st rfl ?_); (first | refine aS1 S ?_ | refine aSt S ?_ | refine aSp S ?_); clear S; intro w9 S))
      (refine Sep.ret1_1 S rfl rfl memA Try.underlying26 rfl ts26 rfl rfl ?_)
      rw [R1.out, R2.out]
      exact ⟨_, rfl, S.own (d := tBk) (x := x) (F := F) memA, S.chg⟩
  · have P0 : payOk b ⟨sq, 2, fr, ds, sm, tl, vr⟩ = bkMay b 1 sm := by unfold payOk; simp only [decide_eq_false e0]; rfl
    cases hm : bkMay b 1 sm with
    | false =>
      have R1 := Lib.hid (show payBk b ⟨sq, 2, fr, ds, sm, tl, vr⟩ = b by unfold payBk; rw [P0, hm]; rfl)
      have R2 := Lib.hid (show payN b ⟨sq, 2, fr, ds, sm, tl, vr⟩ = 2 by unfold payN; rw [P0, hm]; rfl)
      have HM := Lib.hid hm
      clear bd ho hok h P0 hm e0
      go_enter Try.func142, Try.ntmps142
      go_wp2_with (first
        | (go_at_call 151; (with_reducible refine (l1Back_no _ b _ (S.rd (d := tBk) (x := b) (F := F) memA) HB.out 1 ds sm (by decide) zs.out HM.out).mono ?_); rintro e w9 ⟨rfl, f9⟩; replace S := S.fr f9; clear f9)
        | ((with_reducible refine gate_box rfl ?_); refine aBx S ?_; clear S; intro g9 w9 z9 S) | ((with_reducible refine gate_alloc rfl ?_); refine aAl S ?_; clear S; intro g9 w9 z9 S) | ((with_reducible refine gate_load rfl ?_); first | refine aLd S ?_ | refine aPt S ?_ | refine aL1 S ?_) | ((with_reducible refine gate_st rfl ?_); (first | refine aS1 S ?_ | refine aSt S ?_ | refine aSp S ?_); clear S; intro w9 S))
      (refine Sep.ret1_1 S rfl rfl memA Try.underlying26 rfl ts26 rfl rfl ?_)
      rw [R1.out, R2.out]
      exact ⟨_, rfl, S.own (d := tBk) (x := b) (F := F) memA, S.chg⟩
    | true =>
      obtain ⟨x, hx⟩ : ∃ x, backBk b 1 ds sm = x := ⟨_, rfl⟩
      have R1 := Lib.hid (show payBk b ⟨sq, 2, fr, ds, sm, tl, vr⟩ = x by unfold payBk; rw [P0, hm, ← hx]; rfl)
      have R2 := Lib.hid (show payN b ⟨sq, 2, fr, ds, sm, tl, vr⟩ = 1 by unfold payN; rw [P0, hm]; rfl)
      have HM := Lib.hid hm
      have HX := Lib.hid hx
      clear bd ho hok h P0 hm e0 hx
      go_enter Try.func142, Try.ntmps142
      go_wp2_with (first
        | (go_at_call 151; go_loud ((with_reducible refine (l1Back_t _ b _ F (S.both memA) HB.out 1 ds sm (by decide) zd.out zs.out HM.out).mono ?_); rintro e w9 ⟨cs9, rfl, h9, c9⟩; rw [HX.out] at h9; have LN9 := Lib.hid (show cs9.length = 3 from tBk.len (tBk.own_rd h9)); replace S := S.putOwn putA h9 c9; clear h9 c9))
        | ((with_reducible refine gate_box rfl ?_); refine aBx S ?_; clear S; intro g9 w9 z9 S) | ((with_reducible refine gate_alloc rfl ?_); refine aAl S ?_; clear S; intro g9 w9 z9 S) | ((with_reducible refine gate_load rfl ?_); first | refine aLd S ?_ | refine aPt S ?_ | refine aL1 S ?_) | ((with_reducible refine gate_st rfl ?_); (first | refine aS1 S ?_ | refine aSt S ?_ | refine aSp S ?_); clear S; intro w9 S))
      (refine Sep.ret1_1 S rfl rfl memA Try.underlying26 rfl ts26 rfl rfl ?_)
      rw [R1.out, R2.out]
      exact ⟨_, rfl, S.own (d := tBk) (x := x) (F := F) memA, S.chg⟩
theorem l13Pay_x (w : World) (b : Bk) (p : Pk) (cs : List Value) (F : List Nat) (h : (aOwn tBk b cs F).ok w ∧ F.Nodup) (hok : okBk b = true) (ho : okPk p = true) {x : Bk} {r : Int} (hx : payBk b p = x) (hr : payN b p = r) :
    Calls Try.prog 142 #[.agg cs.toArray, .agg #[.int .i64 p.seq, .int .i64 p.kind, .int .i64 p.frm, .int .i64 p.dst, .int .i64 p.sum, .int .i64 p.til, .int .i64 p.ver]] w (PaidR x r F w) := hx ▸ hr ▸ l13Pay_c w b p cs F h hok ho
end Go.Proofs.Ytapdcgjccckjeaa
namespace Go.Proofs.Ytapdcgjccckjeaa
set_option maxRecDepth 100000
set_option linter.unusedVariables false
set_option linter.unusedSimpArgs false
open Go.RowKit
def gotAt (c : Ch) (p : Pk) : Int := c.st.got.getD (p.seq - 1).toNat 0
def getOk (c : Ch) (s : St) (p : Pk) : Bool := decide (3 ≤ c.st.way) && (hasL s p && (decide (gotAt c p = 0) && (decide (p.ver = c.st.vsn) && decide ((c.past.length : Int) + 1 < p.til))))
def paidC (c : Ch) (m : Nat) (x : Bk) (g : Int) : Ch := ⟨c.id, x, ⟨c.st.way, c.st.vsn, c.st.want, c.st.sent, c.st.live, c.st.back, c.st.got.set m g⟩, c.past, c.knows⟩
def getC (c : Ch) (s : St) (p : Pk) : Ch := if getOk c s p = true then paidC c (p.seq - 1).toNat (payBk c.bank p) (payN c.bank p) else c
theorem chGot_at {W : World} {c : Ch} {b1 b2 s1 s2 s3 v1 v2 : Value} {ad : Addr} {k n : Nat} (h : tCh.rd W c [.int .i64 c.id, b1, b2, .int .i64 c.bank.locked, .int .i64 c.st.way, .int .i64 c.st.vsn, .int .i64 c.st.want, s1, s2, s3, .slice (some ad) n k, v1, v2]) (m : Nat) (hm : m < c.st.got.length) {g : Int} (hg : c.st.got[m] = g) : W.cell? (ad.add m) = some (.int .i64 g) := by
  obtain ⟨_, _, _, _, _, _, _, _, e, _, h2, _⟩ := h
  simp only [List.cons.injEq, and_true, true_and] at e
  obtain ⟨rfl, rfl, rfl, rfl, rfl, rfl, rfl, rfl⟩ := e
  obtain ⟨a9, e9, g9⟩ := row_int_at (tSt_rows h2).2.2.2.1 m hm
  cases e9
  rw [hg] at g9
  exact g9
theorem l3Has_r (w : World) (s : St) (c0 : List Value) (h1 : tSt.rd w s c0) (p : Pk) (o1 : okSt s = true) {r : Bool} (hr : hasL s p = r) : Calls Try.prog 141 #[.agg c0.toArray, .agg #[.int .i64 p.seq, .int .i64 p.kind, .int .i64 p.frm, .int .i64 p.dst, .int .i64 p.sum, .int .i64 p.til, .int .i64 p.ver]] w (Ret (.bool r) w) := hr ▸ l3Has_c w s c0 h1 p o1
set_option maxHeartbeats 6400000 in
theorem l13Get_c (w0 w : World) (L : List Asrt) (c : Ch) (c1 : List Value) (F : List Nat) (S : Sep [] w0 (aOwn tCh c c1 F :: L) w) (hc : okCh c = true) (s : St) (c2 : List Value) (h2 : tSt.rd w0 s c2) (hs : okSt s = true) (p : Pk) (ho : okPk p = true) :
    Calls Try.prog 117 #[.agg c1.toArray, .agg c2.toArray, .agg #[.int .i64 p.seq, .int .i64 p.kind, .int .i64 p.frm, .int .i64 p.dst, .int .i64 p.sum, .int .i64 p.til, .int .i64 p.ver]] w fun e w' => ∃ cs F', e = .returned (.tuple #[.agg cs.toArray, .bool (getOk c s p)]) ∧ Sep [] w0 (aOwn tCh (getC c s p) cs F' :: L) w' := by
  obtain ⟨o1, o2, o3, o4, rfl, t1, t2, t3, t4, _⟩ := id h2
  obtain ⟨D1, l1, rfl⟩ := t1.val
  obtain ⟨D2, l2, rfl⟩ := t2.val
  obtain ⟨D3, l3, rfl⟩ := t3.val
  obtain ⟨D4, l4, rfl⟩ := t4.val
  obtain ⟨b1, b2, s1, s2, s3, s4, A1, n1, A2, n2, F1, F2, F3, F4, rfl, rfl, h15, S9⟩ := S.openCh
  obtain ⟨A6, n6, A7, n7, A8, n8, A9, n9, e1⟩ := S9.shapeSt (.tail _ (.head _))
  simp only [List.cons.injEq, and_true, true_and] at e1
  obtain ⟨rfl, rfl, rfl, rfl⟩ := e1
  obtain ⟨B1, k1, B2, k2, e1⟩ := S9.shapeBk List.mem_cons_self
  simp only [List.cons.injEq, and_true, true_and] at e1
  obtain ⟨rfl, rfl⟩ := e1
  obtain ⟨q1, q2, q3, q4, q5, q6⟩ := okCh_parts hc
  have ll := okSt_len q3
  have bd := okPk_iff.1 ho
  obtain ⟨sq, kd, fr, ds, sm, tl, vr⟩ := p
  simp only at bd
  dsimp only
  obtain ⟨m, rfl⟩ : ∃ m : Nat, sq = (m : Int) + 1 := ⟨(sq - 1).toNat, by omega⟩
  have hl9 : m < c.st.got.length := by omega
  obtain ⟨g, hg⟩ : ∃ g, c.st.got[m] = g := ⟨_, rfl⟩
  have GA : gotAt c ⟨(m : Int) + 1, kd, fr, ds, sm, tl, vr⟩ = g := by unfold gotAt; rw [show ((m : Int) + 1 - 1).toNat = m by omega, List.getD_eq_getElem?_getD, List.getElem?_eq_getElem hl9]; exact hg
  have GR := (tSt_rows (S9.rd (d := tSt) (x := c.st) (F := F2) (.tail _ (.head _)))).2.2.2.1
  obtain ⟨ad9, e9, g0⟩ := row_int_at GR m hl9
  cases e9
  clear GR g0
  have HC := Lib.hid hc
  have H2 := Lib.hid h2
  have O2 := Lib.hid hs
  have HL := Lib.hid hl9
  have HG := Lib.hid (show c.st.got[m]'HL.out = g from hg)
  have p0 : (0 : Int) ≤ (m : Int) := Int.natCast_nonneg _
  have p4 : (m : Int) < (c.st.got.length : Int) := by omega
  have w1 : IntKind.i64.wrap ((m : Int) + 1 - 1) = (m : Int) := by rw [Int.add_sub_cancel]; exact IntWalk.i64_in _ (by omega)
  have w2 : IntKind.i64.wrap (m : Int) = (m : Int) := IntWalk.i64_in _ (by omega)
  have w3 : IntKind.i64.wrap ((c.past.length : Int) + 1) = (c.past.length : Int) + 1 := IntWalk.i64_in _ (by omega)
  have GO := Lib.hid (show getOk c s ⟨(m : Int) + 1, kd, fr, ds, sm, tl, vr⟩ = (decide (3 ≤ c.st.way) && (hasL s ⟨(m : Int) + 1, kd, fr, ds, sm, tl, vr⟩ && (decide (g = 0) && (decide (vr = c.st.vsn) && decide ((c.past.length : Int) + 1 < tl))))) by unfold getOk; rw [GA])
  have HP := Lib.hid ho
  have HBK := Lib.hid q2
  clear hg GA hc q1 q3 q4 q5 q6 ll bd hs h2 hl9 ho q2
  by_cases e1 : c.st.way < 3
  · have d1 : decide (c.st.way < 3) = true := decide_eq_true e1
    have E := Lib.hid (show getOk c s ⟨(m : Int) + 1, kd, fr, ds, sm, tl, vr⟩ = false by rw [GO.out, decide_eq_false (show ¬ 3 ≤ c.st.way by omega), Bool.false_and])
    have EC := Lib.hid (show getC c s ⟨(m : Int) + 1, kd, fr, ds, sm, tl, vr⟩ = c by unfold getC; rw [E.out]; rfl)
    clear S9
    go_enter Try.func117, Try.ntmps117
    go_wp2_with (first
      | ((with_reducible refine gate_box rfl ?_); refine aBx S ?_; clear S; intro g9 w9 z9 S) | ((with_reducible refine gate_alloc rfl ?_); refine aAl S ?_; clear S; intro g9 w9 z9 S) | ((with_reducible refine gate_load rfl ?_); first | refine aLd S ?_ | refine aPt S ?_ | refine aL1 S ?_) | ((with_reducible refine gate_st rfl ?_); (first | refine aS1 S ?_ | refine aSt S ?_ | refine aSp S ?_); clear S; intro w9 S))
    (refine Sep.ret1_1 S rfl rfl memA Try.underlying33 rfl ts33 rfl rfl ?_)
    rw [E.out, EC.out]
    exact ⟨_, _, rfl, S.sub subA⟩
  have d1 : decide (c.st.way < 3) = false := decide_eq_false e1
  cases e2 : hasL s ⟨(m : Int) + 1, kd, fr, ds, sm, tl, vr⟩ with
  | false =>
    have HA := Lib.hid e2
    have E := Lib.hid (show getOk c s ⟨(m : Int) + 1, kd, fr, ds, sm, tl, vr⟩ = false by rw [GO.out, e2, Bool.false_and, Bool.and_false])
    have EC := Lib.hid (show getC c s ⟨(m : Int) + 1, kd, fr, ds, sm, tl, vr⟩ = c by unfold getC; rw [E.out]; rfl)
    clear S9
    go_enter Try.func117, Try.ntmps117
    go_wp2_with (first
      | (go_at_call 141; (with_reducible refine (l3Has_r _ s _ (tSt.fr S.frame H2.out) ⟨(m : Int) + 1, kd, fr, ds, sm, tl, vr⟩ O2.out HA.out).mono ?_); rintro e w9 ⟨rfl, f9⟩; replace S := S.fr f9; clear f9)
      | ((with_reducible refine gate_box rfl ?_); refine aBx S ?_; clear S; intro g9 w9 z9 S) | ((with_reducible refine gate_alloc rfl ?_); refine aAl S ?_; clear S; intro g9 w9 z9 S) | ((with_reducible refine gate_load rfl ?_); first | refine aLd S ?_ | refine aPt S ?_ | refine aL1 S ?_) | ((with_reducible refine gate_st rfl ?_); (first | refine aS1 S ?_ | refine aSt S ?_ | refine aSp S ?_); clear S; intro w9 S))
    (refine Sep.ret1_1 S rfl rfl memA Try.underlying33 rfl ts33 rfl rfl ?_)
    rw [E.out, EC.out]
    exact ⟨_, _, rfl, S.sub subA⟩
  | true =>
  have HA := Lib.hid e2
  by_cases e3 : g = 0
  case neg =>
    have d3 : (g != 0) = true := by simpa using e3
    have E := Lib.hid (show getOk c s ⟨(m : Int) + 1, kd, fr, ds, sm, tl, vr⟩ = false by rw [GO.out, decide_eq_false e3, Bool.false_and, Bool.and_false, Bool.and_false])
    have EC := Lib.hid (show getC c s ⟨(m : Int) + 1, kd, fr, ds, sm, tl, vr⟩ = c by unfold getC; rw [E.out]; rfl)
    clear S9
    go_enter Try.func117, Try.ntmps117
    go_wp2_with (first
      | (go_at_call 141; (with_reducible refine (l3Has_r _ s _ (tSt.fr S.frame H2.out) ⟨(m : Int) + 1, kd, fr, ds, sm, tl, vr⟩ O2.out HA.out).mono ?_); rintro e w9 ⟨rfl, f9⟩; replace S := S.fr f9; clear f9)
      | ((with_reducible refine gate_dst (N := 29) rfl ?_); go_loud (refine aRc (chGot_at (S.rd (d := tCh) (F := F1 ++ (F2 ++ (F3 ++ F4))) memA) m HL.out HG.out) ?_))
      | ((with_reducible refine gate_box rfl ?_); refine aBx S ?_; clear S; intro g9 w9 z9 S) | ((with_reducible refine gate_alloc rfl ?_); refine aAl S ?_; clear S; intro g9 w9 z9 S) | ((with_reducible refine gate_load rfl ?_); first | refine aLd S ?_ | refine aPt S ?_ | refine aL1 S ?_) | ((with_reducible refine gate_st rfl ?_); (first | refine aS1 S ?_ | refine aSt S ?_ | refine aSp S ?_); clear S; intro w9 S))
    (refine Sep.ret1_1 S rfl rfl memA Try.underlying33 rfl ts33 rfl rfl ?_)
    rw [E.out, EC.out]
    exact ⟨_, _, rfl, S.sub subA⟩
  have d3 : (g != 0) = false := by simpa using e3
  have E3 := Lib.hid e3
  clear e3
  by_cases e4 : vr = c.st.vsn
  case neg =>
    have d4 : (vr != c.st.vsn) = true := by simpa using e4
    have E := Lib.hid (show getOk c s ⟨(m : Int) + 1, kd, fr, ds, sm, tl, vr⟩ = false by rw [GO.out, decide_eq_false e4, Bool.false_and, Bool.and_false, Bool.and_false, Bool.and_false])
    have EC := Lib.hid (show getC c s ⟨(m : Int) + 1, kd, fr, ds, sm, tl, vr⟩ = c by unfold getC; rw [E.out]; rfl)
    clear S9
    go_enter Try.func117, Try.ntmps117
    go_wp2_with (first
      | (go_at_call 141; (with_reducible refine (l3Has_r _ s _ (tSt.fr S.frame H2.out) ⟨(m : Int) + 1, kd, fr, ds, sm, tl, vr⟩ O2.out HA.out).mono ?_); rintro e w9 ⟨rfl, f9⟩; replace S := S.fr f9; clear f9)
      | ((with_reducible refine gate_dst (N := 29) rfl ?_); go_loud (refine aRc (chGot_at (S.rd (d := tCh) (F := F1 ++ (F2 ++ (F3 ++ F4))) memA) m HL.out HG.out) ?_))
      | ((with_reducible refine gate_box rfl ?_); refine aBx S ?_; clear S; intro g9 w9 z9 S) | ((with_reducible refine gate_alloc rfl ?_); refine aAl S ?_; clear S; intro g9 w9 z9 S) | ((with_reducible refine gate_load rfl ?_); first | refine aLd S ?_ | refine aPt S ?_ | refine aL1 S ?_) | ((with_reducible refine gate_st rfl ?_); (first | refine aS1 S ?_ | refine aSt S ?_ | refine aSp S ?_); clear S; intro w9 S))
    (refine Sep.ret1_1 S rfl rfl memA Try.underlying33 rfl ts33 rfl rfl ?_)
    rw [E.out, EC.out]
    exact ⟨_, _, rfl, S.sub subA⟩
  have d4 : (vr != c.st.vsn) = false := by simpa using e4
  have E4 := Lib.hid e4
  clear e4
  by_cases e5 : (c.past.length : Int) + 1 < tl
  case neg =>
    have d5 : decide (tl ≤ (c.past.length : Int) + 1) = true := decide_eq_true (by omega)
    have E := Lib.hid (show getOk c s ⟨(m : Int) + 1, kd, fr, ds, sm, tl, vr⟩ = false by rw [GO.out, decide_eq_false e5, Bool.and_false, Bool.and_false, Bool.and_false, Bool.and_false])
    have EC := Lib.hid (show getC c s ⟨(m : Int) + 1, kd, fr, ds, sm, tl, vr⟩ = c by unfold getC; rw [E.out]; rfl)
    clear S9
    go_enter Try.func117, Try.ntmps117
    go_wp2_with (first
      | (go_at_call 141; (with_reducible refine (l3Has_r _ s _ (tSt.fr S.frame H2.out) ⟨(m : Int) + 1, kd, fr, ds, sm, tl, vr⟩ O2.out HA.out).mono ?_); rintro e w9 ⟨rfl, f9⟩; replace S := S.fr f9; clear f9)
      | ((with_reducible refine gate_dst (N := 29) rfl ?_); go_loud (refine aRc (chGot_at (S.rd (d := tCh) (F := F1 ++ (F2 ++ (F3 ++ F4))) memA) m HL.out HG.out) ?_))
      | ((with_reducible refine gate_box rfl ?_); refine aBx S ?_; clear S; intro g9 w9 z9 S) | ((with_reducible refine gate_alloc rfl ?_); refine aAl S ?_; clear S; intro g9 w9 z9 S) | ((with_reducible refine gate_load rfl ?_); first | refine aLd S ?_ | refine aPt S ?_ | refine aL1 S ?_) | ((with_reducible refine gate_st rfl ?_); (first | refine aS1 S ?_ | refine aSt S ?_ | refine aSp S ?_); clear S; intro w9 S))
    (refine Sep.ret1_1 S rfl rfl memA Try.underlying33 rfl ts33 rfl rfl ?_)
    rw [E.out, EC.out]
    exact ⟨_, _, rfl, S.sub subA⟩
  have d5 : decide (tl ≤ (c.past.length : Int) + 1) = false := decide_eq_false (by omega)
  have E := Lib.hid (show getOk c s ⟨(m : Int) + 1, kd, fr, ds, sm, tl, vr⟩ = true by rw [GO.out, decide_eq_true (show 3 ≤ c.st.way by omega), e2, decide_eq_true E3.out, decide_eq_true E4.out, decide_eq_true e5]; rfl)
  obtain ⟨x, hx⟩ : ∃ x, payBk c.bank ⟨(m : Int) + 1, kd, fr, ds, sm, tl, vr⟩ = x := ⟨_, rfl⟩
  obtain ⟨r, hr⟩ : ∃ r, payN c.bank ⟨(m : Int) + 1, kd, fr, ds, sm, tl, vr⟩ = r := ⟨_, rfl⟩
  have EC := Lib.hid (show getC c s ⟨(m : Int) + 1, kd, fr, ds, sm, tl, vr⟩ = ⟨c.id, x, ⟨c.st.way, c.st.vsn, c.st.want, c.st.sent, c.st.live, c.st.back, c.st.got.set m r⟩, c.past, c.knows⟩ by unfold getC; rw [E.out, if_pos rfl, hx, hr]; simp only []; rw [show ((m : Int) + 1 - 1).toNat = m by omega]; rfl)
  have HX := Lib.hid hx
  have HR := Lib.hid hr
  clear hx hr e1 e2 e5 S
  have S := S9
  clear S9
  replace S := S.pull (a := aOwn tSt c.st _ F2) delA
  obtain ⟨B6, m6, B7, m7, B8, m8, B9, m9, Y6, Y7, Y8, Y9, e1, rfl, J9, S9⟩ := S.openSt
  simp only [List.cons.injEq, and_true, true_and, Value.slice.injEq] at e1
  obtain ⟨⟨rfl, rfl⟩, ⟨rfl, rfl⟩, ⟨rfl, rfl⟩, ⟨rfl, rfl⟩⟩ := e1
  replace S := S9
  clear S9
  obtain ⟨gG, r9, e9⟩ := (S.row (d := tInt) (xs := c.st.got) (F := Y9) (e := 3) memA).shape (by omega)
  simp only [Value.slice.injEq, Option.some.injEq, true_and] at e9
  obtain ⟨rfl, rfl⟩ := e9
  have L9 := Lib.hid (show (c.st.got.set m r).length = c.st.got.length by simp)
  go_enter Try.func117, Try.ntmps117
  go_wp2_with (first
      | (go_at_call 141; (with_reducible refine (l3Has_r _ s _ (tSt.fr S.frame H2.out) ⟨(m : Int) + 1, kd, fr, ds, sm, tl, vr⟩ O2.out HA.out).mono ?_); rintro e w9 ⟨rfl, f9⟩; replace S := S.fr f9; clear f9)
      | ((with_reducible refine gate_dst (N := 29) rfl ?_); go_loud (obtain ⟨ad7, e7, g7⟩ := row_int_at (S.row (d := tInt) (xs := c.st.got) (F := Y9) (e := 3) memA).row m HL.out; cases e7; rw [HG.out] at g7; simp only [addr_add, Nat.zero_add] at g7; refine aRc g7 ?_))
      | ((with_reducible refine gate_store (p := 65) rfl ?_); go_loud (refine aElP (d := tInt) (xs := c.st.got) (x := r) (k := m) S delA (el1_int r) HL.out ?_); clear S; intro G9 w9 S; rw [← L9.out] at S)
      | (go_at_call 142; go_loud ((with_reducible refine (l13Pay_x _ c.bank ⟨(m : Int) + 1, kd, fr, ds, sm, tl, vr⟩ _ F1 (S.both memA) HBK.out HP.out HX.out HR.out).mono ?_); rintro e w9 ⟨cs9, rfl, h9, c9⟩; replace S := S.putOwn putA h9 c9; clear h9 c9; replace S := S.pull (a := aOwn tBk x _ F1) delA; obtain ⟨x1, x2, Y1, Y2, rfl, rfl, I9, S9⟩ := S.openBk; replace S := S9; clear S9))
      | ((with_reducible refine gate_box rfl ?_); refine aBx S ?_; clear S; intro g9 w9 z9 S) | ((with_reducible refine gate_alloc rfl ?_); refine aAl S ?_; clear S; intro g9 w9 z9 S) | ((with_reducible refine gate_load rfl ?_); first | refine aLd S ?_ | refine aPt S ?_ | refine aL1 S ?_) | ((with_reducible refine gate_st rfl ?_); (first | refine aS1 S ?_ | refine aSt S ?_ | refine aSp S ?_); clear S; intro w9 S))
  have S := S.allCh ⟨c.id, x, ⟨c.st.way, c.st.vsn, c.st.want, c.st.sent, c.st.live, c.st.back, c.st.got.set m r⟩, c.past, c.knows⟩ I9 J9 h15
  (refine Sep.ret1_1 S rfl rfl memA Try.underlying33 rfl ts33 rfl rfl ?_)
  rw [E.out, EC.out]
  exact ⟨_, _, rfl, S.sub subA⟩
end Go.Proofs.Ytapdcgjccckjeaa
