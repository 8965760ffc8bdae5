/- The texts RelP, RelQ, RelR, Open, OpenPk. -/
import Derived.Test.YtapdcgjccckjeaaPkFnExactRelayGetI
import Derived.Deep.Slices
import Derived.ChangeArms
import Derived.Carry
namespace Go.Proofs.Ytapdcgjccckjeaa
set_option maxRecDepth 100000
set_option linter.unusedVariables false
set_option linter.unusedSimpArgs false
open Go.RowKit
theorem StateHas_r (w : World) (s : St) (c0 : List Value) (h1 : tSt.rd w s c0) (p : Pk) {r : Bool} (hr : hasSt s p = r) : Calls Try.prog 155 #[.agg c0.toArray, .agg #[.int .i64 p.seq, .int .i64 p.kind, .int .i64 p.frm, .int .i64 p.dst, .int .i64 p.sum, .int .i64 p.til, .int .i64 p.ver]] w (Ret (.bool r) w) := hr ▸ StateHas_c w s c0 h1 p
theorem StateGot_r (w : World) (s : St) (c0 : List Value) (h1 : tSt.rd w s c0) (n : Int) {r : Int} (hr : gotV s n = r) : Calls Try.prog 139 #[.agg c0.toArray, .int .i64 n] w (Ret (.int .i64 r) w) := hr ▸ StateGot_c w s c0 h1 n
set_option maxHeartbeats 12800000 in
theorem mayGet_c (w0 w : World) (L : List Asrt) (g : Nat) (c : Ch) (F : List Nat) (S : Sep [] w0 (aLnk g c F :: L) w) (hc : okCh c = true) (s : St) (v1 v2 v3 v4 : Value) (h2 : tSt.rd w0 s [.int .i64 s.way, .int .i64 s.vsn, .int .i64 s.want, v1, v2, v3, v4]) (hs : okSt s = true) (h : Int) (p : Pk) (ho : okPk p = true) :
    Calls Try.prog 144 #[.pointer (some ⟨g, 0, none⟩), .agg #[.int .i64 s.way, .int .i64 s.vsn, .int .i64 s.want, v1, v2, v3, v4, .int .i64 h], .agg #[.int .i64 p.seq, .int .i64 p.kind, .int .i64 p.frm, .int .i64 p.dst, .int .i64 p.sum, .int .i64 p.til, .int .i64 p.ver]] w fun e w' => e = .returned (.bool (getOk c s p)) ∧ ∃ F', Sep [] w0 (aLnk g c F' :: L) w' := by
  obtain ⟨t1, t2, t3, t4, _⟩ := tSt_rows h2
  obtain ⟨D1, l1, rfl⟩ := t1.val
  obtain ⟨D2, l2, rfl⟩ := t2.val
  obtain ⟨D3, l3, rfl⟩ := t3.val
  obtain ⟨D4, l4, rfl⟩ := t4.val
  obtain ⟨A1, m1, A2, m2, B1, n1, B2, n2, B3, n3, B4, n4, q, A5, m5, Y1, Y2, Z1, Z2, Z3, Z4, M1, K1, I9, J9, h15, S9⟩ := S.openLnk
  replace S := S9
  clear S9
  obtain ⟨q1, q2, q3, q4, q5, q6⟩ := okCh_parts hc
  have ll := okSt_len q3
  have wy : 0 ≤ c.st.way ∧ c.st.way ≤ 4 := by unfold okSt at q3; simp only [Bool.and_eq_true] at q3; exact of_decide_eq_true q3.1.1.1.1
  have bd := okPk_iff.1 ho
  obtain ⟨sq, kd, fr, ds, sm, tl, vr⟩ := p
  simp only at bd
  dsimp only
  obtain ⟨m, rfl⟩ : ∃ m : Nat, sq = (m : Int) + 1 := ⟨(sq - 1).toNat, by omega⟩
  have hl9 : m < c.st.got.length := by omega
  obtain ⟨gv, hgv⟩ : ∃ gv, c.st.got.getD m 0 = gv := ⟨_, rfl⟩
  have GA : gotAt c ⟨(m : Int) + 1, kd, fr, ds, sm, tl, vr⟩ = gv := by unfold gotAt; rw [show ((m : Int) + 1 - 1).toNat = m by omega]; exact hgv
  have GV := Lib.hid (show gotV c.st ((m : Int) + 1) = gv by unfold gotV; rw [if_pos ⟨q3, by omega, by omega⟩, show ((m : Int) + 1 - 1).toNat = m by omega]; exact hgv)
  have H2 := Lib.hid h2
  have w3 : IntKind.i64.wrap ((c.past.length : Int) + 1) = (c.past.length : Int) + 1 := IntWalk.i64_in _ (by omega)
  have GO := Lib.hid (show getOk c s ⟨(m : Int) + 1, kd, fr, ds, sm, tl, vr⟩ = (decide (3 ≤ c.st.way) && (hasL s ⟨(m : Int) + 1, kd, fr, ds, sm, tl, vr⟩ && (decide (gv = 0) && (decide (vr = c.st.vsn) && decide ((c.past.length : Int) + 1 < tl))))) by unfold getOk; rw [GA])
  have HS : hasSt s ⟨(m : Int) + 1, kd, fr, ds, sm, tl, vr⟩ = hasL s ⟨(m : Int) + 1, kd, fr, ds, sm, tl, vr⟩ := by unfold hasSt; rw [hs]; rfl
  clear hgv GA hc q1 q2 q3 q4 q5 q6 ll bd h2 hl9 ho hs
  by_cases e1 : c.st.way < 3
  · have d1 : (c.st.way != 3) = true := by simp only [bne_iff_ne]; omega
    have d2 : (c.st.way != 4) = true := by simp only [bne_iff_ne]; omega
    have E := Lib.hid (show getOk c s ⟨(m : Int) + 1, kd, fr, ds, sm, tl, vr⟩ = false by rw [GO.out, decide_eq_false (show ¬ 3 ≤ c.st.way by omega), Bool.false_and])
    clear wy HS e1
    go_enter Try.func144, Try.ntmps144
    go_wp2_with (first | ((with_reducible refine gate_box rfl ?_); refine aBx S ?_; clear S; intro g9 w9 z9 S) | ((with_reducible refine gate_alloc rfl ?_); refine aAl S ?_; clear S; intro g9 w9 z9 S) | ((with_reducible refine gate_load rfl ?_); first | refine aLd S ?_ | refine aPt S ?_ | refine aL1 S ?_) | ((with_reducible refine gate_st rfl ?_); (first | refine aS1 S ?_ | refine aSt S ?_ | refine aSp S ?_); clear S; intro w9 S))
    go_ret
    rw [E.out]
    exact ⟨rfl, _, (S.allLnk c I9 J9 h15).sub subA⟩
  have gw : 3 ≤ c.st.way := by omega
  have we : c.st.way = 3 ∨ c.st.way = 4 := by omega
  clear wy e1
  cases e2 : hasL s ⟨(m : Int) + 1, kd, fr, ds, sm, tl, vr⟩ with
  | false =>
    have HA := Lib.hid (HS.trans e2)
    clear HS
    have E := Lib.hid (show getOk c s ⟨(m : Int) + 1, kd, fr, ds, sm, tl, vr⟩ = false by rw [GO.out, decide_eq_true gw, Bool.true_and, e2, Bool.false_and])
    clear gw
    rcases we with ew | ew
    · have d1 : (c.st.way != 3) = false := by rw [ew]; rfl
      have d2 : (c.st.way != 4) = true := by rw [ew]; rfl
      clear ew
      go_enter Try.func144, Try.ntmps144
      go_wp2_with (first | ((with_reducible refine gate_box rfl ?_); refine aBx S ?_; clear S; intro g9 w9 z9 S) | ((with_reducible refine gate_alloc rfl ?_); refine aAl S ?_; clear S; intro g9 w9 z9 S) | ((with_reducible refine gate_load rfl ?_); first | refine aLd S ?_ | refine aPt S ?_ | refine aL1 S ?_) | ((with_reducible refine gate_st rfl ?_); (first | refine aS1 S ?_ | refine aSt S ?_ | refine aSp S ?_); clear S; intro w9 S))
      have S0 := S
      refine wp_region_noPanic ?_
      refine wp_region_held_drew (S := Sep _ _ _) (by kernel_rfl) S0.drew (fun _ => ?_)
      replace S := S.drew
      clear S0
      refine tk 0 ?_
      (try simp only [Act.put, List.setIfInBounds_toArray, List.set_cons_zero, List.set_cons_succ])
      refine tk 1 ?_
      (try simp only [Act.put, List.setIfInBounds_toArray, List.set_cons_zero, List.set_cons_succ])
      refine tk 2 ?_
      (try simp only [Act.put, List.setIfInBounds_toArray, List.set_cons_zero, List.set_cons_succ])
      refine rdy1 3 (fun K hK => ?_)
      go_simp; (skip; go_at_call 155; (with_reducible refine (StateHas_r _ s _ (tSt.fr S.frame H2.out) ⟨(m : Int) + 1, kd, fr, ds, sm, tl, vr⟩ HA.out).mono ?_); rintro e w9 ⟨rfl, f9⟩; replace S := S.fr f9; clear f9)
      (first | refine hK.out _ _ (S.sub subA) (fun _ => ?_) | (go_wp2_with fail; refine hK.out _ _ (S.sub subA) (fun _ => ?_)))
      clear hK K
      (try simp only [Act.put, List.setIfInBounds_toArray, List.set_cons_zero, List.set_cons_succ])
      refine tk 4 ?_
      (try simp only [Act.put, List.setIfInBounds_toArray, List.set_cons_zero, List.set_cons_succ])
      refine tk 5 ?_
      (try simp only [Act.put, List.setIfInBounds_toArray, List.set_cons_zero, List.set_cons_succ])
      refine tk 6 ?_
      (try simp only [Act.put, List.setIfInBounds_toArray, List.set_cons_zero, List.set_cons_succ])
      refine tk 7 ?_
      (try simp only [Act.put, List.setIfInBounds_toArray, List.set_cons_zero, List.set_cons_succ])
      refine rdy1 8 (fun K hK => ?_)
      go_simp
      (first | refine hK.out _ _ (S.sub subA) (fun _ => ?_) | (go_wp2_with fail; refine hK.out _ _ (S.sub subA) (fun _ => ?_)))
      clear hK K
      (try simp only [Act.put, List.setIfInBounds_toArray, List.set_cons_zero, List.set_cons_succ])
      refine tk 9 ?_
      (try simp only [Act.put, List.setIfInBounds_toArray, List.set_cons_zero, List.set_cons_succ])
      refine tk 10 ?_
      (try simp only [Act.put, List.setIfInBounds_toArray, List.set_cons_zero, List.set_cons_succ])
      refine tk 11 ?_
      (try simp only [Act.put, List.setIfInBounds_toArray, List.set_cons_zero, List.set_cons_succ])
      refine tk 12 ?_
      (try simp only [Act.put, List.setIfInBounds_toArray, List.set_cons_zero, List.set_cons_succ])
      refine tk 13 ?_
      (try simp only [Act.put, List.setIfInBounds_toArray, List.set_cons_zero, List.set_cons_succ])
      refine tk 14 ?_
      (try simp only [Act.put, List.setIfInBounds_toArray, List.set_cons_zero, List.set_cons_succ])
      refine tk 15 ?_
      (try simp only [Act.put, List.setIfInBounds_toArray, List.set_cons_zero, List.set_cons_succ])
      refine tk 16 ?_
      (try simp only [Act.put, List.setIfInBounds_toArray, List.set_cons_zero, List.set_cons_succ])
      refine tk 17 ?_
      (try simp only [Act.put, List.setIfInBounds_toArray, List.set_cons_zero, List.set_cons_succ])
      refine tk 18 ?_
      (try simp only [Act.put, List.setIfInBounds_toArray, List.set_cons_zero, List.set_cons_succ])
      refine tk 19 ?_
      (try simp only [Act.put, List.setIfInBounds_toArray, List.set_cons_zero, List.set_cons_succ])
      refine tk 20 ?_
      (try simp only [Act.put, List.setIfInBounds_toArray, List.set_cons_zero, List.set_cons_succ])
      refine tk 21 ?_
      (try simp only [Act.put, List.setIfInBounds_toArray, List.set_cons_zero, List.set_cons_succ])
      refine tk 22 ?_
      (try simp only [Act.put, List.setIfInBounds_toArray, List.set_cons_zero, List.set_cons_succ])
      refine tk 23 ?_
      (try simp only [Act.put, List.setIfInBounds_toArray, List.set_cons_zero, List.set_cons_succ])
      refine tk 24 ?_
      (try simp only [Act.put, List.setIfInBounds_toArray, List.set_cons_zero, List.set_cons_succ])
      refine tk 25 ?_
      (try simp only [Act.put, List.setIfInBounds_toArray, List.set_cons_zero, List.set_cons_succ])
      refine tk 26 ?_
      (try simp only [Act.put, List.setIfInBounds_toArray, List.set_cons_zero, List.set_cons_succ])
      refine tk 27 ?_
      (try simp only [Act.put, List.setIfInBounds_toArray, List.set_cons_zero, List.set_cons_succ])
      refine tk 28 ?_
      (try simp only [Act.put, List.setIfInBounds_toArray, List.set_cons_zero, List.set_cons_succ])
      refine wpAnyH_done (by kernel_rfl) ?_ _
      refine NoPanic.normal ?_
      go_wp2_with (first | ((with_reducible refine gate_box rfl ?_); refine aBx S ?_; clear S; intro g9 w9 z9 S) | ((with_reducible refine gate_alloc rfl ?_); refine aAl S ?_; clear S; intro g9 w9 z9 S) | ((with_reducible refine gate_load rfl ?_); first | refine aLd S ?_ | refine aPt S ?_ | refine aL1 S ?_) | ((with_reducible refine gate_st rfl ?_); (first | refine aS1 S ?_ | refine aSt S ?_ | refine aSp S ?_); clear S; intro w9 S))
      go_ret
      rw [E.out]
      exact ⟨rfl, _, (S.allLnk c I9 J9 h15).sub subA⟩
    · have d1 : (c.st.way != 3) = true := by rw [ew]; rfl
      have d2 : (c.st.way != 4) = false := by rw [ew]; rfl
      clear ew
      go_enter Try.func144, Try.ntmps144
      go_wp2_with (first | ((with_reducible refine gate_box rfl ?_); refine aBx S ?_; clear S; intro g9 w9 z9 S) | ((with_reducible refine gate_alloc rfl ?_); refine aAl S ?_; clear S; intro g9 w9 z9 S) | ((with_reducible refine gate_load rfl ?_); first | refine aLd S ?_ | refine aPt S ?_ | refine aL1 S ?_) | ((with_reducible refine gate_st rfl ?_); (first | refine aS1 S ?_ | refine aSt S ?_ | refine aSp S ?_); clear S; intro w9 S))
      have S0 := S
      refine wp_region_noPanic ?_
      refine wp_region_held_drew (S := Sep _ _ _) (by kernel_rfl) S0.drew (fun _ => ?_)
      replace S := S.drew
      clear S0
      refine tk 0 ?_
      (try simp only [Act.put, List.setIfInBounds_toArray, List.set_cons_zero, List.set_cons_succ])
      refine tk 1 ?_
      (try simp only [Act.put, List.setIfInBounds_toArray, List.set_cons_zero, List.set_cons_succ])
      refine tk 2 ?_
      (try simp only [Act.put, List.setIfInBounds_toArray, List.set_cons_zero, List.set_cons_succ])
      refine rdy1 3 (fun K hK => ?_)
      go_simp; (skip; go_at_call 155; (with_reducible refine (StateHas_r _ s _ (tSt.fr S.frame H2.out) ⟨(m : Int) + 1, kd, fr, ds, sm, tl, vr⟩ HA.out).mono ?_); rintro e w9 ⟨rfl, f9⟩; replace S := S.fr f9; clear f9)
      (first | refine hK.out _ _ (S.sub subA) (fun _ => ?_) | (go_wp2_with fail; refine hK.out _ _ (S.sub subA) (fun _ => ?_)))
      clear hK K
      (try simp only [Act.put, List.setIfInBounds_toArray, List.set_cons_zero, List.set_cons_succ])
      refine tk 4 ?_
      (try simp only [Act.put, List.setIfInBounds_toArray, List.set_cons_zero, List.set_cons_succ])
      refine tk 5 ?_
      (try simp only [Act.put, List.setIfInBounds_toArray, List.set_cons_zero, List.set_cons_succ])
      refine tk 6 ?_
      (try simp only [Act.put, List.setIfInBounds_toArray, List.set_cons_zero, List.set_cons_succ])
      refine tk 7 ?_
      (try simp only [Act.put, List.setIfInBounds_toArray, List.set_cons_zero, List.set_cons_succ])
      refine rdy1 8 (fun K hK => ?_)
      go_simp
      (first | refine hK.out _ _ (S.sub subA) (fun _ => ?_) | (go_wp2_with fail; refine hK.out _ _ (S.sub subA) (fun _ => ?_)))
      clear hK K
      (try simp only [Act.put, List.setIfInBounds_toArray, List.set_cons_zero, List.set_cons_succ])
      refine tk 9 ?_
      (try simp only [Act.put, List.setIfInBounds_toArray, List.set_cons_zero, List.set_cons_succ])
      refine tk 10 ?_
      (try simp only [Act.put, List.setIfInBounds_toArray, List.set_cons_zero, List.set_cons_succ])
      refine tk 11 ?_
      (try simp only [Act.put, List.setIfInBounds_toArray, List.set_cons_zero, List.set_cons_succ])
      refine tk 12 ?_
      (try simp only [Act.put, List.setIfInBounds_toArray, List.set_cons_zero, List.set_cons_succ])
      refine tk 13 ?_
      (try simp only [Act.put, List.setIfInBounds_toArray, List.set_cons_zero, List.set_cons_succ])
      refine tk 14 ?_
      (try simp only [Act.put, List.setIfInBounds_toArray, List.set_cons_zero, List.set_cons_succ])
      refine tk 15 ?_
      (try simp only [Act.put, List.setIfInBounds_toArray, List.set_cons_zero, List.set_cons_succ])
      refine tk 16 ?_
      (try simp only [Act.put, List.setIfInBounds_toArray, List.set_cons_zero, List.set_cons_succ])
      refine tk 17 ?_
      (try simp only [Act.put, List.setIfInBounds_toArray, List.set_cons_zero, List.set_cons_succ])
      refine tk 18 ?_
      (try simp only [Act.put, List.setIfInBounds_toArray, List.set_cons_zero, List.set_cons_succ])
      refine tk 19 ?_
      (try simp only [Act.put, List.setIfInBounds_toArray, List.set_cons_zero, List.set_cons_succ])
      refine tk 20 ?_
      (try simp only [Act.put, List.setIfInBounds_toArray, List.set_cons_zero, List.set_cons_succ])
      refine tk 21 ?_
      (try simp only [Act.put, List.setIfInBounds_toArray, List.set_cons_zero, List.set_cons_succ])
      refine tk 22 ?_
      (try simp only [Act.put, List.setIfInBounds_toArray, List.set_cons_zero, List.set_cons_succ])
      refine tk 23 ?_
      (try simp only [Act.put, List.setIfInBounds_toArray, List.set_cons_zero, List.set_cons_succ])
      refine tk 24 ?_
      (try simp only [Act.put, List.setIfInBounds_toArray, List.set_cons_zero, List.set_cons_succ])
      refine tk 25 ?_
      (try simp only [Act.put, List.setIfInBounds_toArray, List.set_cons_zero, List.set_cons_succ])
      refine tk 26 ?_
      (try simp only [Act.put, List.setIfInBounds_toArray, List.set_cons_zero, List.set_cons_succ])
      refine tk 27 ?_
      (try simp only [Act.put, List.setIfInBounds_toArray, List.set_cons_zero, List.set_cons_succ])
      refine tk 28 ?_
      (try simp only [Act.put, List.setIfInBounds_toArray, List.set_cons_zero, List.set_cons_succ])
      refine wpAnyH_done (by kernel_rfl) ?_ _
      refine NoPanic.normal ?_
      go_wp2_with (first | ((with_reducible refine gate_box rfl ?_); refine aBx S ?_; clear S; intro g9 w9 z9 S) | ((with_reducible refine gate_alloc rfl ?_); refine aAl S ?_; clear S; intro g9 w9 z9 S) | ((with_reducible refine gate_load rfl ?_); first | refine aLd S ?_ | refine aPt S ?_ | refine aL1 S ?_) | ((with_reducible refine gate_st rfl ?_); (first | refine aS1 S ?_ | refine aSt S ?_ | refine aSp S ?_); clear S; intro w9 S))
      go_ret
      rw [E.out]
      exact ⟨rfl, _, (S.allLnk c I9 J9 h15).sub subA⟩
  | true =>
  have HA := Lib.hid (HS.trans e2)
  clear HS
  by_cases e3 : gv = 0
  case neg =>
    have d3 : (gv == 0) = false := by simpa using e3
    have E := Lib.hid (show getOk c s ⟨(m : Int) + 1, kd, fr, ds, sm, tl, vr⟩ = false by rw [GO.out, decide_eq_true gw, Bool.true_and, e2, Bool.true_and, decide_eq_false e3, Bool.false_and])
    clear gw
    rcases we with ew | ew
    · have d1 : (c.st.way != 3) = false := by rw [ew]; rfl
      have d2 : (c.st.way != 4) = true := by rw [ew]; rfl
      clear ew
      go_enter Try.func144, Try.ntmps144
      go_wp2_with (first | ((with_reducible refine gate_box rfl ?_); refine aBx S ?_; clear S; intro g9 w9 z9 S) | ((with_reducible refine gate_alloc rfl ?_); refine aAl S ?_; clear S; intro g9 w9 z9 S) | ((with_reducible refine gate_load rfl ?_); first | refine aLd S ?_ | refine aPt S ?_ | refine aL1 S ?_) | ((with_reducible refine gate_st rfl ?_); (first | refine aS1 S ?_ | refine aSt S ?_ | refine aSp S ?_); clear S; intro w9 S))
      have S0 := S
      refine wp_region_noPanic ?_
      refine wp_region_held_drew (S := Sep _ _ _) (by kernel_rfl) S0.drew (fun _ => ?_)
      replace S := S.drew
      clear S0
      refine tk 0 ?_
      (try simp only [Act.put, List.setIfInBounds_toArray, List.set_cons_zero, List.set_cons_succ])
      refine tk 1 ?_
      (try simp only [Act.put, List.setIfInBounds_toArray, List.set_cons_zero, List.set_cons_succ])
      refine tk 2 ?_
      (try simp only [Act.put, List.setIfInBounds_toArray, List.set_cons_zero, List.set_cons_succ])
      refine rdy1 3 (fun K hK => ?_)
      go_simp; (skip; go_at_call 155; (with_reducible refine (StateHas_r _ s _ (tSt.fr S.frame H2.out) ⟨(m : Int) + 1, kd, fr, ds, sm, tl, vr⟩ HA.out).mono ?_); rintro e w9 ⟨rfl, f9⟩; replace S := S.fr f9; clear f9)
      (first | refine hK.out _ _ (S.sub subA) (fun _ => ?_) | (go_wp2_with fail; refine hK.out _ _ (S.sub subA) (fun _ => ?_)))
      clear hK K
      (try simp only [Act.put, List.setIfInBounds_toArray, List.set_cons_zero, List.set_cons_succ])
      refine tk 4 ?_
      (try simp only [Act.put, List.setIfInBounds_toArray, List.set_cons_zero, List.set_cons_succ])
      refine tk 5 ?_
      (try simp only [Act.put, List.setIfInBounds_toArray, List.set_cons_zero, List.set_cons_succ])
      refine tk 6 ?_
      (try simp only [Act.put, List.setIfInBounds_toArray, List.set_cons_zero, List.set_cons_succ])
      refine tk 7 ?_
      (try simp only [Act.put, List.setIfInBounds_toArray, List.set_cons_zero, List.set_cons_succ])
      refine rdy1 8 (fun K hK => ?_)
      go_simp; (skip; go_at_call 139; (with_reducible refine (StateGot_r _ c.st _ (tSt_mk (S.row (d := tPk) (xs := c.st.sent) (F := Z1) (e := 88) memA).row (S.row (d := tBool) (xs := c.st.live) (F := Z2) (e := 4) memA).row (S.row (d := tBool) (xs := c.st.back) (F := Z3) (e := 4) memA).row (S.row (d := tInt) (xs := c.st.got) (F := Z4) (e := 3) memA).row J9) ((m : Int) + 1) GV.out).mono ?_); rintro e w9 ⟨rfl, f9⟩; replace S := S.fr f9; clear f9)
      (first | refine hK.out _ _ (S.sub subA) (fun _ => ?_) | (go_wp2_with fail; refine hK.out _ _ (S.sub subA) (fun _ => ?_)))
      clear hK K
      (try simp only [Act.put, List.setIfInBounds_toArray, List.set_cons_zero, List.set_cons_succ])
      refine tk 9 ?_
      (try simp only [Act.put, List.setIfInBounds_toArray, List.set_cons_zero, List.set_cons_succ])
      refine tk 10 ?_
      (try simp only [Act.put, List.setIfInBounds_toArray, List.set_cons_zero, List.set_cons_succ])
      refine tk 11 ?_
      (try simp only [Act.put, List.setIfInBounds_toArray, List.set_cons_zero, List.set_cons_succ])
      refine tk 12 ?_
      (try simp only [Act.put, List.setIfInBounds_toArray, List.set_cons_zero, List.set_cons_succ])
      refine tk 13 ?_
      (try simp only [Act.put, List.setIfInBounds_toArray, List.set_cons_zero, List.set_cons_succ])
      refine tk 14 ?_
      (try simp only [Act.put, List.setIfInBounds_toArray, List.set_cons_zero, List.set_cons_succ])
      refine tk 15 ?_
      (try simp only [Act.put, List.setIfInBounds_toArray, List.set_cons_zero, List.set_cons_succ])
      refine tk 16 ?_
      (try simp only [Act.put, List.setIfInBounds_toArray, List.set_cons_zero, List.set_cons_succ])
      refine tk 17 ?_
      (try simp only [Act.put, List.setIfInBounds_toArray, List.set_cons_zero, List.set_cons_succ])
      refine tk 18 ?_
      (try simp only [Act.put, List.setIfInBounds_toArray, List.set_cons_zero, List.set_cons_succ])
      refine tk 19 ?_
      (try simp only [Act.put, List.setIfInBounds_toArray, List.set_cons_zero, List.set_cons_succ])
      refine tk 20 ?_
      (try simp only [Act.put, List.setIfInBounds_toArray, List.set_cons_zero, List.set_cons_succ])
      refine tk 21 ?_
      (try simp only [Act.put, List.setIfInBounds_toArray, List.set_cons_zero, List.set_cons_succ])
      refine tk 22 ?_
      (try simp only [Act.put, List.setIfInBounds_toArray, List.set_cons_zero, List.set_cons_succ])
      refine tk 23 ?_
      (try simp only [Act.put, List.setIfInBounds_toArray, List.set_cons_zero, List.set_cons_succ])
      refine tk 24 ?_
      (try simp only [Act.put, List.setIfInBounds_toArray, List.set_cons_zero, List.set_cons_succ])
      refine tk 25 ?_
      (try simp only [Act.put, List.setIfInBounds_toArray, List.set_cons_zero, List.set_cons_succ])
      refine tk 26 ?_
      (try simp only [Act.put, List.setIfInBounds_toArray, List.set_cons_zero, List.set_cons_succ])
      refine tk 27 ?_
      (try simp only [Act.put, List.setIfInBounds_toArray, List.set_cons_zero, List.set_cons_succ])
      refine tk 28 ?_
      (try simp only [Act.put, List.setIfInBounds_toArray, List.set_cons_zero, List.set_cons_succ])
      refine wpAnyH_done (by kernel_rfl) ?_ _
      refine NoPanic.normal ?_
      go_wp2_with (first | ((with_reducible refine gate_box rfl ?_); refine aBx S ?_; clear S; intro g9 w9 z9 S) | ((with_reducible refine gate_alloc rfl ?_); refine aAl S ?_; clear S; intro g9 w9 z9 S) | ((with_reducible refine gate_load rfl ?_); first | refine aLd S ?_ | refine aPt S ?_ | refine aL1 S ?_) | ((with_reducible refine gate_st rfl ?_); (first | refine aS1 S ?_ | refine aSt S ?_ | refine aSp S ?_); clear S; intro w9 S))
      go_ret
      rw [E.out]
      exact ⟨rfl, _, (S.allLnk c I9 J9 h15).sub subA⟩
    · have d1 : (c.st.way != 3) = true := by rw [ew]; rfl
      have d2 : (c.st.way != 4) = false := by rw [ew]; rfl
      clear ew
      go_enter Try.func144, Try.ntmps144
      go_wp2_with (first | ((with_reducible refine gate_box rfl ?_); refine aBx S ?_; clear S; intro g9 w9 z9 S) | ((with_reducible refine gate_alloc rfl ?_); refine aAl S ?_; clear S; intro g9 w9 z9 S) | ((with_reducible refine gate_load rfl ?_); first | refine aLd S ?_ | refine aPt S ?_ | refine aL1 S ?_) | ((with_reducible refine gate_st rfl ?_); (first | refine aS1 S ?_ | refine aSt S ?_ | refine aSp S ?_); clear S; intro w9 S))
      have S0 := S
      refine wp_region_noPanic ?_
      refine wp_region_held_drew (S := Sep _ _ _) (by kernel_rfl) S0.drew (fun _ => ?_)
      replace S := S.drew
      clear S0
      refine tk 0 ?_
      (try simp only [Act.put, List.setIfInBounds_toArray, List.set_cons_zero, List.set_cons_succ])
      refine tk 1 ?_
      (try simp only [Act.put, List.setIfInBounds_toArray, List.set_cons_zero, List.set_cons_succ])
      refine tk 2 ?_
      (try simp only [Act.put, List.setIfInBounds_toArray, List.set_cons_zero, List.set_cons_succ])
      refine rdy1 3 (fun K hK => ?_)
      go_simp; (skip; go_at_call 155; (with_reducible refine (StateHas_r _ s _ (tSt.fr S.frame H2.out) ⟨(m : Int) + 1, kd, fr, ds, sm, tl, vr⟩ HA.out).mono ?_); rintro e w9 ⟨rfl, f9⟩; replace S := S.fr f9; clear f9)
      (first | refine hK.out _ _ (S.sub subA) (fun _ => ?_) | (go_wp2_with fail; refine hK.out _ _ (S.sub subA) (fun _ => ?_)))
      clear hK K
      (try simp only [Act.put, List.setIfInBounds_toArray, List.set_cons_zero, List.set_cons_succ])
      refine tk 4 ?_
      (try simp only [Act.put, List.setIfInBounds_toArray, List.set_cons_zero, List.set_cons_succ])
      refine tk 5 ?_
      (try simp only [Act.put, List.setIfInBounds_toArray, List.set_cons_zero, List.set_cons_succ])
      refine tk 6 ?_
      (try simp only [Act.put, List.setIfInBounds_toArray, List.set_cons_zero, List.set_cons_succ])
      refine tk 7 ?_
      (try simp only [Act.put, List.setIfInBounds_toArray, List.set_cons_zero, List.set_cons_succ])
      refine rdy1 8 (fun K hK => ?_)
      go_simp; (skip; go_at_call 139; (with_reducible refine (StateGot_r _ c.st _ (tSt_mk (S.row (d := tPk) (xs := c.st.sent) (F := Z1) (e := 88) memA).row (S.row (d := tBool) (xs := c.st.live) (F := Z2) (e := 4) memA).row (S.row (d := tBool) (xs := c.st.back) (F := Z3) (e := 4) memA).row (S.row (d := tInt) (xs := c.st.got) (F := Z4) (e := 3) memA).row J9) ((m : Int) + 1) GV.out).mono ?_); rintro e w9 ⟨rfl, f9⟩; replace S := S.fr f9; clear f9)
      (first | refine hK.out _ _ (S.sub subA) (fun _ => ?_) | (go_wp2_with fail; refine hK.out _ _ (S.sub subA) (fun _ => ?_)))
      clear hK K
      (try simp only [Act.put, List.setIfInBounds_toArray, List.set_cons_zero, List.set_cons_succ])
      refine tk 9 ?_
      (try simp only [Act.put, List.setIfInBounds_toArray, List.set_cons_zero, List.set_cons_succ])
      refine tk 10 ?_
      (try simp only [Act.put, List.setIfInBounds_toArray, List.set_cons_zero, List.set_cons_succ])
      refine tk 11 ?_
      (try simp only [Act.put, List.setIfInBounds_toArray, List.set_cons_zero, List.set_cons_succ])
      refine tk 12 ?_
      (try simp only [Act.put, List.setIfInBounds_toArray, List.set_cons_zero, List.set_cons_succ])
      refine tk 13 ?_
      (try simp only [Act.put, List.setIfInBounds_toArray, List.set_cons_zero, List.set_cons_succ])
      refine tk 14 ?_
      (try simp only [Act.put, List.setIfInBounds_toArray, List.set_cons_zero, List.set_cons_succ])
      refine tk 15 ?_
      (try simp only [Act.put, List.setIfInBounds_toArray, List.set_cons_zero, List.set_cons_succ])
      refine tk 16 ?_
      (try simp only [Act.put, List.setIfInBounds_toArray, List.set_cons_zero, List.set_cons_succ])
      refine tk 17 ?_
      (try simp only [Act.put, List.setIfInBounds_toArray, List.set_cons_zero, List.set_cons_succ])
      refine tk 18 ?_
      (try simp only [Act.put, List.setIfInBounds_toArray, List.set_cons_zero, List.set_cons_succ])
      refine tk 19 ?_
      (try simp only [Act.put, List.setIfInBounds_toArray, List.set_cons_zero, List.set_cons_succ])
      refine tk 20 ?_
      (try simp only [Act.put, List.setIfInBounds_toArray, List.set_cons_zero, List.set_cons_succ])
      refine tk 21 ?_
      (try simp only [Act.put, List.setIfInBounds_toArray, List.set_cons_zero, List.set_cons_succ])
      refine tk 22 ?_
      (try simp only [Act.put, List.setIfInBounds_toArray, List.set_cons_zero, List.set_cons_succ])
      refine tk 23 ?_
      (try simp only [Act.put, List.setIfInBounds_toArray, List.set_cons_zero, List.set_cons_succ])
      refine tk 24 ?_
      (try simp only [Act.put, List.setIfInBounds_toArray, List.set_cons_zero, List.set_cons_succ])
      refine tk 25 ?_
      (try simp only [Act.put, List.setIfInBounds_toArray, List.set_cons_zero, List.set_cons_succ])
      refine tk 26 ?_
      (try simp only [Act.put, List.setIfInBounds_toArray, List.set_cons_zero, List.set_cons_succ])
      refine tk 27 ?_
      (try simp only [Act.put, List.setIfInBounds_toArray, List.set_cons_zero, List.set_cons_succ])
      refine tk 28 ?_
      (try simp only [Act.put, List.setIfInBounds_toArray, List.set_cons_zero, List.set_cons_succ])
      refine wpAnyH_done (by kernel_rfl) ?_ _
      refine NoPanic.normal ?_
      go_wp2_with (first | ((with_reducible refine gate_box rfl ?_); refine aBx S ?_; clear S; intro g9 w9 z9 S) | ((with_reducible refine gate_alloc rfl ?_); refine aAl S ?_; clear S; intro g9 w9 z9 S) | ((with_reducible refine gate_load rfl ?_); first | refine aLd S ?_ | refine aPt S ?_ | refine aL1 S ?_) | ((with_reducible refine gate_st rfl ?_); (first | refine aS1 S ?_ | refine aSt S ?_ | refine aSp S ?_); clear S; intro w9 S))
      go_ret
      rw [E.out]
      exact ⟨rfl, _, (S.allLnk c I9 J9 h15).sub subA⟩
  have d3 : (gv == 0) = true := by simpa using e3
  have E3 := Lib.hid e3
  clear e3
  by_cases e4 : vr = c.st.vsn
  case neg =>
    have d4 : (vr == c.st.vsn) = false := by simpa using e4
    have E := Lib.hid (show getOk c s ⟨(m : Int) + 1, kd, fr, ds, sm, tl, vr⟩ = false by rw [GO.out, decide_eq_true gw, Bool.true_and, e2, Bool.true_and, decide_eq_true E3.out, Bool.true_and, decide_eq_false e4, Bool.false_and])
    clear gw
    rcases we with ew | ew
    · have d1 : (c.st.way != 3) = false := by rw [ew]; rfl
      have d2 : (c.st.way != 4) = true := by rw [ew]; rfl
      clear ew
      go_enter Try.func144, Try.ntmps144
      go_wp2_with (first | ((with_reducible refine gate_box rfl ?_); refine aBx S ?_; clear S; intro g9 w9 z9 S) | ((with_reducible refine gate_alloc rfl ?_); refine aAl S ?_; clear S; intro g9 w9 z9 S) | ((with_reducible refine gate_load rfl ?_); first | refine aLd S ?_ | refine aPt S ?_ | refine aL1 S ?_) | ((with_reducible refine gate_st rfl ?_); (first | refine aS1 S ?_ | refine aSt S ?_ | refine aSp S ?_); clear S; intro w9 S))
      have S0 := S
      refine wp_region_noPanic ?_
      refine wp_region_held_drew (S := Sep _ _ _) (by kernel_rfl) S0.drew (fun _ => ?_)
      replace S := S.drew
      clear S0
      refine tk 0 ?_
      (try simp only [Act.put, List.setIfInBounds_toArray, List.set_cons_zero, List.set_cons_succ])
      refine tk 1 ?_
      (try simp only [Act.put, List.setIfInBounds_toArray, List.set_cons_zero, List.set_cons_succ])
      refine tk 2 ?_
      (try simp only [Act.put, List.setIfInBounds_toArray, List.set_cons_zero, List.set_cons_succ])
      refine rdy1 3 (fun K hK => ?_)
      go_simp; (skip; go_at_call 155; (with_reducible refine (StateHas_r _ s _ (tSt.fr S.frame H2.out) ⟨(m : Int) + 1, kd, fr, ds, sm, tl, vr⟩ HA.out).mono ?_); rintro e w9 ⟨rfl, f9⟩; replace S := S.fr f9; clear f9)
      (first | refine hK.out _ _ (S.sub subA) (fun _ => ?_) | (go_wp2_with fail; refine hK.out _ _ (S.sub subA) (fun _ => ?_)))
      clear hK K
      (try simp only [Act.put, List.setIfInBounds_toArray, List.set_cons_zero, List.set_cons_succ])
      refine tk 4 ?_
      (try simp only [Act.put, List.setIfInBounds_toArray, List.set_cons_zero, List.set_cons_succ])
      refine tk 5 ?_
      (try simp only [Act.put, List.setIfInBounds_toArray, List.set_cons_zero, List.set_cons_succ])
      refine tk 6 ?_
      (try simp only [Act.put, List.setIfInBounds_toArray, List.set_cons_zero, List.set_cons_succ])
      refine tk 7 ?_
      (try simp only [Act.put, List.setIfInBounds_toArray, List.set_cons_zero, List.set_cons_succ])
      refine rdy1 8 (fun K hK => ?_)
      go_simp; (skip; go_at_call 139; (with_reducible refine (StateGot_r _ c.st _ (tSt_mk (S.row (d := tPk) (xs := c.st.sent) (F := Z1) (e := 88) memA).row (S.row (d := tBool) (xs := c.st.live) (F := Z2) (e := 4) memA).row (S.row (d := tBool) (xs := c.st.back) (F := Z3) (e := 4) memA).row (S.row (d := tInt) (xs := c.st.got) (F := Z4) (e := 3) memA).row J9) ((m : Int) + 1) GV.out).mono ?_); rintro e w9 ⟨rfl, f9⟩; replace S := S.fr f9; clear f9)
      (first | refine hK.out _ _ (S.sub subA) (fun _ => ?_) | (go_wp2_with fail; refine hK.out _ _ (S.sub subA) (fun _ => ?_)))
      clear hK K
      (try simp only [Act.put, List.setIfInBounds_toArray, List.set_cons_zero, List.set_cons_succ])
      refine tk 9 ?_
      (try simp only [Act.put, List.setIfInBounds_toArray, List.set_cons_zero, List.set_cons_succ])
      refine tk 10 ?_
      (try simp only [Act.put, List.setIfInBounds_toArray, List.set_cons_zero, List.set_cons_succ])
      refine tk 11 ?_
      (try simp only [Act.put, List.setIfInBounds_toArray, List.set_cons_zero, List.set_cons_succ])
      refine tk 12 ?_
      (try simp only [Act.put, List.setIfInBounds_toArray, List.set_cons_zero, List.set_cons_succ])
      refine tk 13 ?_
      (try simp only [Act.put, List.setIfInBounds_toArray, List.set_cons_zero, List.set_cons_succ])
      refine tk 14 ?_
      (try simp only [Act.put, List.setIfInBounds_toArray, List.set_cons_zero, List.set_cons_succ])
      refine tk 15 ?_
      (try simp only [Act.put, List.setIfInBounds_toArray, List.set_cons_zero, List.set_cons_succ])
      refine tk 16 ?_
      (try simp only [Act.put, List.setIfInBounds_toArray, List.set_cons_zero, List.set_cons_succ])
      refine tk 17 ?_
      (try simp only [Act.put, List.setIfInBounds_toArray, List.set_cons_zero, List.set_cons_succ])
      refine tk 18 ?_
      (try simp only [Act.put, List.setIfInBounds_toArray, List.set_cons_zero, List.set_cons_succ])
      refine tk 19 ?_
      (try simp only [Act.put, List.setIfInBounds_toArray, List.set_cons_zero, List.set_cons_succ])
      refine tk 20 ?_
      (try simp only [Act.put, List.setIfInBounds_toArray, List.set_cons_zero, List.set_cons_succ])
      refine tk 21 ?_
      (try simp only [Act.put, List.setIfInBounds_toArray, List.set_cons_zero, List.set_cons_succ])
      refine tk 22 ?_
      (try simp only [Act.put, List.setIfInBounds_toArray, List.set_cons_zero, List.set_cons_succ])
      refine tk 23 ?_
      (try simp only [Act.put, List.setIfInBounds_toArray, List.set_cons_zero, List.set_cons_succ])
      refine tk 24 ?_
      (try simp only [Act.put, List.setIfInBounds_toArray, List.set_cons_zero, List.set_cons_succ])
      refine tk 25 ?_
      (try simp only [Act.put, List.setIfInBounds_toArray, List.set_cons_zero, List.set_cons_succ])
      refine tk 26 ?_
      (try simp only [Act.put, List.setIfInBounds_toArray, List.set_cons_zero, List.set_cons_succ])
      refine tk 27 ?_
      (try simp only [Act.put, List.setIfInBounds_toArray, List.set_cons_zero, List.set_cons_succ])
      refine tk 28 ?_
      (try simp only [Act.put, List.setIfInBounds_toArray, List.set_cons_zero, List.set_cons_succ])
      refine wpAnyH_done (by kernel_rfl) ?_ _
      refine NoPanic.normal ?_
      go_wp2_with (first | ((with_reducible refine gate_box rfl ?_); refine aBx S ?_; clear S; intro g9 w9 z9 S) | ((with_reducible refine gate_alloc rfl ?_); refine aAl S ?_; clear S; intro g9 w9 z9 S) | ((with_reducible refine gate_load rfl ?_); first | refine aLd S ?_ | refine aPt S ?_ | refine aL1 S ?_) | ((with_reducible refine gate_st rfl ?_); (first | refine aS1 S ?_ | refine aSt S ?_ | refine aSp S ?_); clear S; intro w9 S))
      go_ret
      rw [E.out]
      exact ⟨rfl, _, (S.allLnk c I9 J9 h15).sub subA⟩
    · have d1 : (c.st.way != 3) = true := by rw [ew]; rfl
      have d2 : (c.st.way != 4) = false := by rw [ew]; rfl
      clear ew
      go_enter Try.func144, Try.ntmps144
      go_wp2_with (first | ((with_reducible refine gate_box rfl ?_); refine aBx S ?_; clear S; intro g9 w9 z9 S) | ((with_reducible refine gate_alloc rfl ?_); refine aAl S ?_; clear S; intro g9 w9 z9 S) | ((with_reducible refine gate_load rfl ?_); first | refine aLd S ?_ | refine aPt S ?_ | refine aL1 S ?_) | ((with_reducible refine gate_st rfl ?_); (first | refine aS1 S ?_ | refine aSt S ?_ | refine aSp S ?_); clear S; intro w9 S))
      have S0 := S
      refine wp_region_noPanic ?_
      refine wp_region_held_drew (S := Sep _ _ _) (by kernel_rfl) S0.drew (fun _ => ?_)
      replace S := S.drew
      clear S0
      refine tk 0 ?_
      (try simp only [Act.put, List.setIfInBounds_toArray, List.set_cons_zero, List.set_cons_succ])
      refine tk 1 ?_
      (try simp only [Act.put, List.setIfInBounds_toArray, List.set_cons_zero, List.set_cons_succ])
      refine tk 2 ?_
      (try simp only [Act.put, List.setIfInBounds_toArray, List.set_cons_zero, List.set_cons_succ])
      refine rdy1 3 (fun K hK => ?_)
      go_simp; (skip; go_at_call 155; (with_reducible refine (StateHas_r _ s _ (tSt.fr S.frame H2.out) ⟨(m : Int) + 1, kd, fr, ds, sm, tl, vr⟩ HA.out).mono ?_); rintro e w9 ⟨rfl, f9⟩; replace S := S.fr f9; clear f9)
      (first | refine hK.out _ _ (S.sub subA) (fun _ => ?_) | (go_wp2_with fail; refine hK.out _ _ (S.sub subA) (fun _ => ?_)))
      clear hK K
      (try simp only [Act.put, List.setIfInBounds_toArray, List.set_cons_zero, List.set_cons_succ])
      refine tk 4 ?_
      (try simp only [Act.put, List.setIfInBounds_toArray, List.set_cons_zero, List.set_cons_succ])
      refine tk 5 ?_
      (try simp only [Act.put, List.setIfInBounds_toArray, List.set_cons_zero, List.set_cons_succ])
      refine tk 6 ?_
      (try simp only [Act.put, List.setIfInBounds_toArray, List.set_cons_zero, List.set_cons_succ])
      refine tk 7 ?_
      (try simp only [Act.put, List.setIfInBounds_toArray, List.set_cons_zero, List.set_cons_succ])
      refine rdy1 8 (fun K hK => ?_)
      go_simp; (skip; go_at_call 139; (with_reducible refine (StateGot_r _ c.st _ (tSt_mk (S.row (d := tPk) (xs := c.st.sent) (F := Z1) (e := 88) memA).row (S.row (d := tBool) (xs := c.st.live) (F := Z2) (e := 4) memA).row (S.row (d := tBool) (xs := c.st.back) (F := Z3) (e := 4) memA).row (S.row (d := tInt) (xs := c.st.got) (F := Z4) (e := 3) memA).row J9) ((m : Int) + 1) GV.out).mono ?_); rintro e w9 ⟨rfl, f9⟩; replace S := S.fr f9; clear f9)
      (first | refine hK.out _ _ (S.sub subA) (fun _ => ?_) | (go_wp2_with fail; refine hK.out _ _ (S.sub subA) (fun _ => ?_)))
      clear hK K
      (try simp only [Act.put, List.setIfInBounds_toArray, List.set_cons_zero, List.set_cons_succ])
      refine tk 9 ?_
      (try simp only [Act.put, List.setIfInBounds_toArray, List.set_cons_zero, List.set_cons_succ])
      refine tk 10 ?_
      (try simp only [Act.put, List.setIfInBounds_toArray, List.set_cons_zero, List.set_cons_succ])
      refine tk 11 ?_
      (try simp only [Act.put, List.setIfInBounds_toArray, List.set_cons_zero, List.set_cons_succ])
      refine tk 12 ?_
      (try simp only [Act.put, List.setIfInBounds_toArray, List.set_cons_zero, List.set_cons_succ])
      refine tk 13 ?_
      (try simp only [Act.put, List.setIfInBounds_toArray, List.set_cons_zero, List.set_cons_succ])
      refine tk 14 ?_
      (try simp only [Act.put, List.setIfInBounds_toArray, List.set_cons_zero, List.set_cons_succ])
      refine tk 15 ?_
      (try simp only [Act.put, List.setIfInBounds_toArray, List.set_cons_zero, List.set_cons_succ])
      refine tk 16 ?_
      (try simp only [Act.put, List.setIfInBounds_toArray, List.set_cons_zero, List.set_cons_succ])
      refine tk 17 ?_
      (try simp only [Act.put, List.setIfInBounds_toArray, List.set_cons_zero, List.set_cons_succ])
      refine tk 18 ?_
      (try simp only [Act.put, List.setIfInBounds_toArray, List.set_cons_zero, List.set_cons_succ])
      refine tk 19 ?_
      (try simp only [Act.put, List.setIfInBounds_toArray, List.set_cons_zero, List.set_cons_succ])
      refine tk 20 ?_
      (try simp only [Act.put, List.setIfInBounds_toArray, List.set_cons_zero, List.set_cons_succ])
      refine tk 21 ?_
      (try simp only [Act.put, List.setIfInBounds_toArray, List.set_cons_zero, List.set_cons_succ])
      refine tk 22 ?_
      (try simp only [Act.put, List.setIfInBounds_toArray, List.set_cons_zero, List.set_cons_succ])
      refine tk 23 ?_
      (try simp only [Act.put, List.setIfInBounds_toArray, List.set_cons_zero, List.set_cons_succ])
      refine tk 24 ?_
      (try simp only [Act.put, List.setIfInBounds_toArray, List.set_cons_zero, List.set_cons_succ])
      refine tk 25 ?_
      (try simp only [Act.put, List.setIfInBounds_toArray, List.set_cons_zero, List.set_cons_succ])
      refine tk 26 ?_
      (try simp only [Act.put, List.setIfInBounds_toArray, List.set_cons_zero, List.set_cons_succ])
      refine tk 27 ?_
      (try simp only [Act.put, List.setIfInBounds_toArray, List.set_cons_zero, List.set_cons_succ])
      refine tk 28 ?_
      (try simp only [Act.put, List.setIfInBounds_toArray, List.set_cons_zero, List.set_cons_succ])
      refine wpAnyH_done (by kernel_rfl) ?_ _
      refine NoPanic.normal ?_
      go_wp2_with (first | ((with_reducible refine gate_box rfl ?_); refine aBx S ?_; clear S; intro g9 w9 z9 S) | ((with_reducible refine gate_alloc rfl ?_); refine aAl S ?_; clear S; intro g9 w9 z9 S) | ((with_reducible refine gate_load rfl ?_); first | refine aLd S ?_ | refine aPt S ?_ | refine aL1 S ?_) | ((with_reducible refine gate_st rfl ?_); (first | refine aS1 S ?_ | refine aSt S ?_ | refine aSp S ?_); clear S; intro w9 S))
      go_ret
      rw [E.out]
      exact ⟨rfl, _, (S.allLnk c I9 J9 h15).sub subA⟩
  have d4 : (vr == c.st.vsn) = true := by simpa using e4
  have E4 := Lib.hid e4
  clear e4
  by_cases e5 : (c.past.length : Int) + 1 < tl
  case neg =>
    have d5 : decide ((c.past.length : Int) + 1 < tl) = false := decide_eq_false e5
    have E := Lib.hid (show getOk c s ⟨(m : Int) + 1, kd, fr, ds, sm, tl, vr⟩ = false by rw [GO.out, decide_eq_true gw, Bool.true_and, e2, Bool.true_and, decide_eq_true E3.out, Bool.true_and, decide_eq_true E4.out, Bool.true_and]; exact d5)
    clear gw
    rcases we with ew | ew
    · have d1 : (c.st.way != 3) = false := by rw [ew]; rfl
      have d2 : (c.st.way != 4) = true := by rw [ew]; rfl
      clear ew
      go_enter Try.func144, Try.ntmps144
      go_wp2_with (first | ((with_reducible refine gate_box rfl ?_); refine aBx S ?_; clear S; intro g9 w9 z9 S) | ((with_reducible refine gate_alloc rfl ?_); refine aAl S ?_; clear S; intro g9 w9 z9 S) | ((with_reducible refine gate_load rfl ?_); first | refine aLd S ?_ | refine aPt S ?_ | refine aL1 S ?_) | ((with_reducible refine gate_st rfl ?_); (first | refine aS1 S ?_ | refine aSt S ?_ | refine aSp S ?_); clear S; intro w9 S))
      have S0 := S
      refine wp_region_noPanic ?_
      refine wp_region_held_drew (S := Sep _ _ _) (by kernel_rfl) S0.drew (fun _ => ?_)
      replace S := S.drew
      clear S0
      refine tk 0 ?_
      (try simp only [Act.put, List.setIfInBounds_toArray, List.set_cons_zero, List.set_cons_succ])
      refine tk 1 ?_
      (try simp only [Act.put, List.setIfInBounds_toArray, List.set_cons_zero, List.set_cons_succ])
      refine tk 2 ?_
      (try simp only [Act.put, List.setIfInBounds_toArray, List.set_cons_zero, List.set_cons_succ])
      refine rdy1 3 (fun K hK => ?_)
      go_simp; (skip; go_at_call 155; (with_reducible refine (StateHas_r _ s _ (tSt.fr S.frame H2.out) ⟨(m : Int) + 1, kd, fr, ds, sm, tl, vr⟩ HA.out).mono ?_); rintro e w9 ⟨rfl, f9⟩; replace S := S.fr f9; clear f9)
      (first | refine hK.out _ _ (S.sub subA) (fun _ => ?_) | (go_wp2_with fail; refine hK.out _ _ (S.sub subA) (fun _ => ?_)))
      clear hK K
      (try simp only [Act.put, List.setIfInBounds_toArray, List.set_cons_zero, List.set_cons_succ])
      refine tk 4 ?_
      (try simp only [Act.put, List.setIfInBounds_toArray, List.set_cons_zero, List.set_cons_succ])
      refine tk 5 ?_
      (try simp only [Act.put, List.setIfInBounds_toArray, List.set_cons_zero, List.set_cons_succ])
      refine tk 6 ?_
      (try simp only [Act.put, List.setIfInBounds_toArray, List.set_cons_zero, List.set_cons_succ])
      refine tk 7 ?_
      (try simp only [Act.put, List.setIfInBounds_toArray, List.set_cons_zero, List.set_cons_succ])
      refine rdy1 8 (fun K hK => ?_)
      go_simp; (skip; go_at_call 139; (with_reducible refine (StateGot_r _ c.st _ (tSt_mk (S.row (d := tPk) (xs := c.st.sent) (F := Z1) (e := 88) memA).row (S.row (d := tBool) (xs := c.st.live) (F := Z2) (e := 4) memA).row (S.row (d := tBool) (xs := c.st.back) (F := Z3) (e := 4) memA).row (S.row (d := tInt) (xs := c.st.got) (F := Z4) (e := 3) memA).row J9) ((m : Int) + 1) GV.out).mono ?_); rintro e w9 ⟨rfl, f9⟩; replace S := S.fr f9; clear f9)
      (first | refine hK.out _ _ (S.sub subA) (fun _ => ?_) | (go_wp2_with fail; refine hK.out _ _ (S.sub subA) (fun _ => ?_)))
      clear hK K
      (try simp only [Act.put, List.setIfInBounds_toArray, List.set_cons_zero, List.set_cons_succ])
      refine tk 9 ?_
      (try simp only [Act.put, List.setIfInBounds_toArray, List.set_cons_zero, List.set_cons_succ])
      refine tk 10 ?_
      (try simp only [Act.put, List.setIfInBounds_toArray, List.set_cons_zero, List.set_cons_succ])
      refine tk 11 ?_
      (try simp only [Act.put, List.setIfInBounds_toArray, List.set_cons_zero, List.set_cons_succ])
      refine tk 12 ?_
      (try simp only [Act.put, List.setIfInBounds_toArray, List.set_cons_zero, List.set_cons_succ])
      refine tk 13 ?_
      (try simp only [Act.put, List.setIfInBounds_toArray, List.set_cons_zero, List.set_cons_succ])
      refine tk 14 ?_
      (try simp only [Act.put, List.setIfInBounds_toArray, List.set_cons_zero, List.set_cons_succ])
      refine tk 15 ?_
      (try simp only [Act.put, List.setIfInBounds_toArray, List.set_cons_zero, List.set_cons_succ])
      refine tk 16 ?_
      (try simp only [Act.put, List.setIfInBounds_toArray, List.set_cons_zero, List.set_cons_succ])
      refine tk 17 ?_
      (try simp only [Act.put, List.setIfInBounds_toArray, List.set_cons_zero, List.set_cons_succ])
      refine tk 18 ?_
      (try simp only [Act.put, List.setIfInBounds_toArray, List.set_cons_zero, List.set_cons_succ])
      refine tk 19 ?_
      (try simp only [Act.put, List.setIfInBounds_toArray, List.set_cons_zero, List.set_cons_succ])
      refine tk 20 ?_
      (try simp only [Act.put, List.setIfInBounds_toArray, List.set_cons_zero, List.set_cons_succ])
      refine tk 21 ?_
      (try simp only [Act.put, List.setIfInBounds_toArray, List.set_cons_zero, List.set_cons_succ])
      refine tk 22 ?_
      (try simp only [Act.put, List.setIfInBounds_toArray, List.set_cons_zero, List.set_cons_succ])
      refine tk 23 ?_
      (try simp only [Act.put, List.setIfInBounds_toArray, List.set_cons_zero, List.set_cons_succ])
      refine tk 24 ?_
      (try simp only [Act.put, List.setIfInBounds_toArray, List.set_cons_zero, List.set_cons_succ])
      refine tk 25 ?_
      (try simp only [Act.put, List.setIfInBounds_toArray, List.set_cons_zero, List.set_cons_succ])
      refine tk 26 ?_
      (try simp only [Act.put, List.setIfInBounds_toArray, List.set_cons_zero, List.set_cons_succ])
      refine tk 27 ?_
      (try simp only [Act.put, List.setIfInBounds_toArray, List.set_cons_zero, List.set_cons_succ])
      refine tk 28 ?_
      (try simp only [Act.put, List.setIfInBounds_toArray, List.set_cons_zero, List.set_cons_succ])
      refine wpAnyH_done (by kernel_rfl) ?_ _
      refine NoPanic.normal ?_
      go_wp2_with (first | ((with_reducible refine gate_box rfl ?_); refine aBx S ?_; clear S; intro g9 w9 z9 S) | ((with_reducible refine gate_alloc rfl ?_); refine aAl S ?_; clear S; intro g9 w9 z9 S) | ((with_reducible refine gate_load rfl ?_); first | refine aLd S ?_ | refine aPt S ?_ | refine aL1 S ?_) | ((with_reducible refine gate_st rfl ?_); (first | refine aS1 S ?_ | refine aSt S ?_ | refine aSp S ?_); clear S; intro w9 S))
      go_ret
      rw [E.out]
      exact ⟨rfl, _, (S.allLnk c I9 J9 h15).sub subA⟩
    · have d1 : (c.st.way != 3) = true := by rw [ew]; rfl
      have d2 : (c.st.way != 4) = false := by rw [ew]; rfl
      clear ew
      go_enter Try.func144, Try.ntmps144
      go_wp2_with (first | ((with_reducible refine gate_box rfl ?_); refine aBx S ?_; clear S; intro g9 w9 z9 S) | ((with_reducible refine gate_alloc rfl ?_); refine aAl S ?_; clear S; intro g9 w9 z9 S) | ((with_reducible refine gate_load rfl ?_); first | refine aLd S ?_ | refine aPt S ?_ | refine aL1 S ?_) | ((with_reducible refine gate_st rfl ?_); (first | refine aS1 S ?_ | refine aSt S ?_ | refine aSp S ?_); clear S; intro w9 S))
      have S0 := S
      refine wp_region_noPanic ?_
      refine wp_region_held_drew (S := Sep _ _ _) (by kernel_rfl) S0.drew (fun _ => ?_)
      replace S := S.drew
      clear S0
      refine tk 0 ?_
      (try simp only [Act.put, List.setIfInBounds_toArray, List.set_cons_zero, List.set_cons_succ])
      refine tk 1 ?_
      (try simp only [Act.put, List.setIfInBounds_toArray, List.set_cons_zero, List.set_cons_succ])
      refine tk 2 ?_
      (try simp only [Act.put, List.setIfInBounds_toArray, List.set_cons_zero, List.set_cons_succ])
      refine rdy1 3 (fun K hK => ?_)
      go_simp; (skip; go_at_call 155; (with_reducible refine (StateHas_r _ s _ (tSt.fr S.frame H2.out) ⟨(m : Int) + 1, kd, fr, ds, sm, tl, vr⟩ HA.out).mono ?_); rintro e w9 ⟨rfl, f9⟩; replace S := S.fr f9; clear f9)
      (first | refine hK.out _ _ (S.sub subA) (fun _ => ?_) | (go_wp2_with fail; refine hK.out _ _ (S.sub subA) (fun _ => ?_)))
      clear hK K
      (try simp only [Act.put, List.setIfInBounds_toArray, List.set_cons_zero, List.set_cons_succ])
      refine tk 4 ?_
      (try simp only [Act.put, List.setIfInBounds_toArray, List.set_cons_zero, List.set_cons_succ])
      refine tk 5 ?_
      (try simp only [Act.put, List.setIfInBounds_toArray, List.set_cons_zero, List.set_cons_succ])
      refine tk 6 ?_
      (try simp only [Act.put, List.setIfInBounds_toArray, List.set_cons_zero, List.set_cons_succ])
      refine tk 7 ?_
      (try simp only [Act.put, List.setIfInBounds_toArray, List.set_cons_zero, List.set_cons_succ])
      refine rdy1 8 (fun K hK => ?_)
      go_simp; (skip; go_at_call 139; (with_reducible refine (StateGot_r _ c.st _ (tSt_mk (S.row (d := tPk) (xs := c.st.sent) (F := Z1) (e := 88) memA).row (S.row (d := tBool) (xs := c.st.live) (F := Z2) (e := 4) memA).row (S.row (d := tBool) (xs := c.st.back) (F := Z3) (e := 4) memA).row (S.row (d := tInt) (xs := c.st.got) (F := Z4) (e := 3) memA).row J9) ((m : Int) + 1) GV.out).mono ?_); rintro e w9 ⟨rfl, f9⟩; replace S := S.fr f9; clear f9)
      (first | refine hK.out _ _ (S.sub subA) (fun _ => ?_) | (go_wp2_with fail; refine hK.out _ _ (S.sub subA) (fun _ => ?_)))
      clear hK K
      (try simp only [Act.put, List.setIfInBounds_toArray, List.set_cons_zero, List.set_cons_succ])
      refine tk 9 ?_
      (try simp only [Act.put, List.setIfInBounds_toArray, List.set_cons_zero, List.set_cons_succ])
      refine tk 10 ?_
      (try simp only [Act.put, List.setIfInBounds_toArray, List.set_cons_zero, List.set_cons_succ])
      refine tk 11 ?_
      (try simp only [Act.put, List.setIfInBounds_toArray, List.set_cons_zero, List.set_cons_succ])
      refine tk 12 ?_
      (try simp only [Act.put, List.setIfInBounds_toArray, List.set_cons_zero, List.set_cons_succ])
      refine tk 13 ?_
      (try simp only [Act.put, List.setIfInBounds_toArray, List.set_cons_zero, List.set_cons_succ])
      refine tk 14 ?_
      (try simp only [Act.put, List.setIfInBounds_toArray, List.set_cons_zero, List.set_cons_succ])
      refine tk 15 ?_
      (try simp only [Act.put, List.setIfInBounds_toArray, List.set_cons_zero, List.set_cons_succ])
      refine tk 16 ?_
      (try simp only [Act.put, List.setIfInBounds_toArray, List.set_cons_zero, List.set_cons_succ])
      refine tk 17 ?_
      (try simp only [Act.put, List.setIfInBounds_toArray, List.set_cons_zero, List.set_cons_succ])
      refine tk 18 ?_
      (try simp only [Act.put, List.setIfInBounds_toArray, List.set_cons_zero, List.set_cons_succ])
      refine tk 19 ?_
      (try simp only [Act.put, List.setIfInBounds_toArray, List.set_cons_zero, List.set_cons_succ])
      refine tk 20 ?_
      (try simp only [Act.put, List.setIfInBounds_toArray, List.set_cons_zero, List.set_cons_succ])
      refine tk 21 ?_
      (try simp only [Act.put, List.setIfInBounds_toArray, List.set_cons_zero, List.set_cons_succ])
      refine tk 22 ?_
      (try simp only [Act.put, List.setIfInBounds_toArray, List.set_cons_zero, List.set_cons_succ])
      refine tk 23 ?_
      (try simp only [Act.put, List.setIfInBounds_toArray, List.set_cons_zero, List.set_cons_succ])
      refine tk 24 ?_
      (try simp only [Act.put, List.setIfInBounds_toArray, List.set_cons_zero, List.set_cons_succ])
      refine tk 25 ?_
      (try simp only [Act.put, List.setIfInBounds_toArray, List.set_cons_zero, List.set_cons_succ])
      refine tk 26 ?_
      (try simp only [Act.put, List.setIfInBounds_toArray, List.set_cons_zero, List.set_cons_succ])
      refine tk 27 ?_
      (try simp only [Act.put, List.setIfInBounds_toArray, List.set_cons_zero, List.set_cons_succ])
      refine tk 28 ?_
      (try simp only [Act.put, List.setIfInBounds_toArray, List.set_cons_zero, List.set_cons_succ])
      refine wpAnyH_done (by kernel_rfl) ?_ _
      refine NoPanic.normal ?_
      go_wp2_with (first | ((with_reducible refine gate_box rfl ?_); refine aBx S ?_; clear S; intro g9 w9 z9 S) | ((with_reducible refine gate_alloc rfl ?_); refine aAl S ?_; clear S; intro g9 w9 z9 S) | ((with_reducible refine gate_load rfl ?_); first | refine aLd S ?_ | refine aPt S ?_ | refine aL1 S ?_) | ((with_reducible refine gate_st rfl ?_); (first | refine aS1 S ?_ | refine aSt S ?_ | refine aSp S ?_); clear S; intro w9 S))
      go_ret
      rw [E.out]
      exact ⟨rfl, _, (S.allLnk c I9 J9 h15).sub subA⟩
  have d5 : decide ((c.past.length : Int) + 1 < tl) = true := decide_eq_true e5
  have E := Lib.hid (show getOk c s ⟨(m : Int) + 1, kd, fr, ds, sm, tl, vr⟩ = true by rw [GO.out, decide_eq_true gw, Bool.true_and, e2, Bool.true_and, decide_eq_true E3.out, Bool.true_and, decide_eq_true E4.out, Bool.true_and]; exact d5)
  clear gw
  rcases we with ew | ew
  · have d1 : (c.st.way != 3) = false := by rw [ew]; rfl
    have d2 : (c.st.way != 4) = true := by rw [ew]; rfl
    clear ew
    go_enter Try.func144, Try.ntmps144
    go_wp2_with (first | ((with_reducible refine gate_box rfl ?_); refine aBx S ?_; clear S; intro g9 w9 z9 S) | ((with_reducible refine gate_alloc rfl ?_); refine aAl S ?_; clear S; intro g9 w9 z9 S) | ((with_reducible refine gate_load rfl ?_); first | refine aLd S ?_ | refine aPt S ?_ | refine aL1 S ?_) | ((with_reducible refine gate_st rfl ?_); (first | refine aS1 S ?_ | refine aSt S ?_ | refine aSp S ?_); clear S; intro w9 S))
    have S0 := S
    refine wp_region_noPanic ?_
    refine wp_region_held_drew (S := Sep _ _ _) (by kernel_rfl) S0.drew (fun _ => ?_)
    replace S := S.drew
    clear S0
    refine tk 0 ?_
    (try simp only [Act.put, List.setIfInBounds_toArray, List.set_cons_zero, List.set_cons_succ])
    refine tk 1 ?_
    (try simp only [Act.put, List.setIfInBounds_toArray, List.set_cons_zero, List.set_cons_succ])
    refine tk 2 ?_
    (try simp only [Act.put, List.setIfInBounds_toArray, List.set_cons_zero, List.set_cons_succ])
    refine rdy1 3 (fun K hK => ?_)
    go_simp; (skip; go_at_call 155; (with_reducible refine (StateHas_r _ s _ (tSt.fr S.frame H2.out) ⟨(m : Int) + 1, kd, fr, ds, sm, tl, vr⟩ HA.out).mono ?_); rintro e w9 ⟨rfl, f9⟩; replace S := S.fr f9; clear f9)
    (first | refine hK.out _ _ (S.sub subA) (fun _ => ?_) | (go_wp2_with fail; refine hK.out _ _ (S.sub subA) (fun _ => ?_)))
    clear hK K
    (try simp only [Act.put, List.setIfInBounds_toArray, List.set_cons_zero, List.set_cons_succ])
    refine tk 4 ?_
    (try simp only [Act.put, List.setIfInBounds_toArray, List.set_cons_zero, List.set_cons_succ])
    refine tk 5 ?_
    (try simp only [Act.put, List.setIfInBounds_toArray, List.set_cons_zero, List.set_cons_succ])
    refine tk 6 ?_
    (try simp only [Act.put, List.setIfInBounds_toArray, List.set_cons_zero, List.set_cons_succ])
    refine tk 7 ?_
    (try simp only [Act.put, List.setIfInBounds_toArray, List.set_cons_zero, List.set_cons_succ])
    refine rdy1 8 (fun K hK => ?_)
    go_simp; (skip; go_at_call 139; (with_reducible refine (StateGot_r _ c.st _ (tSt_mk (S.row (d := tPk) (xs := c.st.sent) (F := Z1) (e := 88) memA).row (S.row (d := tBool) (xs := c.st.live) (F := Z2) (e := 4) memA).row (S.row (d := tBool) (xs := c.st.back) (F := Z3) (e := 4) memA).row (S.row (d := tInt) (xs := c.st.got) (F := Z4) (e := 3) memA).row J9) ((m : Int) + 1) GV.out).mono ?_); rintro e w9 ⟨rfl, f9⟩; replace S := S.fr f9; clear f9)
    (first | refine hK.out _ _ (S.sub subA) (fun _ => ?_) | (go_wp2_with fail; refine hK.out _ _ (S.sub subA) (fun _ => ?_)))
    clear hK K
    (try simp only [Act.put, List.setIfInBounds_toArray, List.set_cons_zero, List.set_cons_succ])
    refine tk 9 ?_
    (try simp only [Act.put, List.setIfInBounds_toArray, List.set_cons_zero, List.set_cons_succ])
    refine tk 10 ?_
    (try simp only [Act.put, List.setIfInBounds_toArray, List.set_cons_zero, List.set_cons_succ])
    refine tk 11 ?_
    (try simp only [Act.put, List.setIfInBounds_toArray, List.set_cons_zero, List.set_cons_succ])
    refine tk 12 ?_
    (try simp only [Act.put, List.setIfInBounds_toArray, List.set_cons_zero, List.set_cons_succ])
    refine tk 13 ?_
    (try simp only [Act.put, List.setIfInBounds_toArray, List.set_cons_zero, List.set_cons_succ])
    refine tk 14 ?_
    (try simp only [Act.put, List.setIfInBounds_toArray, List.set_cons_zero, List.set_cons_succ])
    refine tk 15 ?_
    (try simp only [Act.put, List.setIfInBounds_toArray, List.set_cons_zero, List.set_cons_succ])
    refine tk 16 ?_
    (try simp only [Act.put, List.setIfInBounds_toArray, List.set_cons_zero, List.set_cons_succ])
    refine tk 17 ?_
    (try simp only [Act.put, List.setIfInBounds_toArray, List.set_cons_zero, List.set_cons_succ])
    refine tk 18 ?_
    (try simp only [Act.put, List.setIfInBounds_toArray, List.set_cons_zero, List.set_cons_succ])
    refine tk 19 ?_
    (try simp only [Act.put, List.setIfInBounds_toArray, List.set_cons_zero, List.set_cons_succ])
    refine tk 20 ?_
    (try simp only [Act.put, List.setIfInBounds_toArray, List.set_cons_zero, List.set_cons_succ])
    refine tk 21 ?_
    (try simp only [Act.put, List.setIfInBounds_toArray, List.set_cons_zero, List.set_cons_succ])
    refine tk 22 ?_
    (try simp only [Act.put, List.setIfInBounds_toArray, List.set_cons_zero, List.set_cons_succ])
    refine tk 23 ?_
    (try simp only [Act.put, List.setIfInBounds_toArray, List.set_cons_zero, List.set_cons_succ])
    refine tk 24 ?_
    (try simp only [Act.put, List.setIfInBounds_toArray, List.set_cons_zero, List.set_cons_succ])
    refine tk 25 ?_
    (try simp only [Act.put, List.setIfInBounds_toArray, List.set_cons_zero, List.set_cons_succ])
    refine tk 26 ?_
    (try simp only [Act.put, List.setIfInBounds_toArray, List.set_cons_zero, List.set_cons_succ])
    refine tk 27 ?_
    (try simp only [Act.put, List.setIfInBounds_toArray, List.set_cons_zero, List.set_cons_succ])
    refine tk 28 ?_
    (try simp only [Act.put, List.setIfInBounds_toArray, List.set_cons_zero, List.set_cons_succ])
    refine wpAnyH_done (by kernel_rfl) ?_ _
    refine NoPanic.normal ?_
    go_wp2_with (first | ((with_reducible refine gate_box rfl ?_); refine aBx S ?_; clear S; intro g9 w9 z9 S) | ((with_reducible refine gate_alloc rfl ?_); refine aAl S ?_; clear S; intro g9 w9 z9 S) | ((with_reducible refine gate_load rfl ?_); first | refine aLd S ?_ | refine aPt S ?_ | refine aL1 S ?_) | ((with_reducible refine gate_st rfl ?_); (first | refine aS1 S ?_ | refine aSt S ?_ | refine aSp S ?_); clear S; intro w9 S))
    go_ret
    rw [E.out]
    exact ⟨rfl, _, (S.allLnk c I9 J9 h15).sub subA⟩
  · have d1 : (c.st.way != 3) = true := by rw [ew]; rfl
    have d2 : (c.st.way != 4) = false := by rw [ew]; rfl
    clear ew
    go_enter Try.func144, Try.ntmps144
    go_wp2_with (first | ((with_reducible refine gate_box rfl ?_); refine aBx S ?_; clear S; intro g9 w9 z9 S) | ((with_reducible refine gate_alloc rfl ?_); refine aAl S ?_; clear S; intro g9 w9 z9 S) | ((with_reducible refine gate_load rfl ?_); first | refine aLd S ?_ | refine aPt S ?_ | refine aL1 S ?_) | ((with_reducible refine gate_st rfl ?_); (first | refine aS1 S ?_ | refine aSt S ?_ | refine aSp S ?_); clear S; intro w9 S))
    have S0 := S
    refine wp_region_noPanic ?_
    refine wp_region_held_drew (S := Sep _ _ _) (by kernel_rfl) S0.drew (fun _ => ?_)
    replace S := S.drew
    clear S0
    refine tk 0 ?_
    (try simp only [Act.put, List.setIfInBounds_toArray, List.set_cons_zero, List.set_cons_succ])
    refine tk 1 ?_
    (try simp only [Act.put, List.setIfInBounds_toArray, List.set_cons_zero, List.set_cons_succ])
    refine tk 2 ?_
    (try simp only [Act.put, List.setIfInBounds_toArray, List.set_cons_zero, List.set_cons_succ])
    refine rdy1 3 (fun K hK => ?_)
    go_simp; (skip; go_at_call 155; (with_reducible refine (StateHas_r _ s _ (tSt.fr S.frame H2.out) ⟨(m : Int) + 1, kd, fr, ds, sm, tl, vr⟩ HA.out).mono ?_); rintro e w9 ⟨rfl, f9⟩; replace S := S.fr f9; clear f9)
    (first | refine hK.out _ _ (S.sub subA) (fun _ => ?_) | (go_wp2_with fail; refine hK.out _ _ (S.sub subA) (fun _ => ?_)))
    clear hK K
    (try simp only [Act.put, List.setIfInBounds_toArray, List.set_cons_zero, List.set_cons_succ])
    refine tk 4 ?_
    (try simp only [Act.put, List.setIfInBounds_toArray, List.set_cons_zero, List.set_cons_succ])
    refine tk 5 ?_
    (try simp only [Act.put, List.setIfInBounds_toArray, List.set_cons_zero, List.set_cons_succ])
    refine tk 6 ?_
    (try simp only [Act.put, List.setIfInBounds_toArray, List.set_cons_zero, List.set_cons_succ])
    refine tk 7 ?_
    (try simp only [Act.put, List.setIfInBounds_toArray, List.set_cons_zero, List.set_cons_succ])
    refine rdy1 8 (fun K hK => ?_)
    go_simp; (skip; go_at_call 139; (with_reducible refine (StateGot_r _ c.st _ (tSt_mk (S.row (d := tPk) (xs := c.st.sent) (F := Z1) (e := 88) memA).row (S.row (d := tBool) (xs := c.st.live) (F := Z2) (e := 4) memA).row (S.row (d := tBool) (xs := c.st.back) (F := Z3) (e := 4) memA).row (S.row (d := tInt) (xs := c.st.got) (F := Z4) (e := 3) memA).row J9) ((m : Int) + 1) GV.out).mono ?_); rintro e w9 ⟨rfl, f9⟩; replace S := S.fr f9; clear f9)
    (first | refine hK.out _ _ (S.sub subA) (fun _ => ?_) | (go_wp2_with fail; refine hK.out _ _ (S.sub subA) (fun _ => ?_)))
    clear hK K
    (try simp only [Act.put, List.setIfInBounds_toArray, List.set_cons_zero, List.set_cons_succ])
    refine tk 9 ?_
    (try simp only [Act.put, List.setIfInBounds_toArray, List.set_cons_zero, List.set_cons_succ])
    refine tk 10 ?_
    (try simp only [Act.put, List.setIfInBounds_toArray, List.set_cons_zero, List.set_cons_succ])
    refine tk 11 ?_
    (try simp only [Act.put, List.setIfInBounds_toArray, List.set_cons_zero, List.set_cons_succ])
    refine tk 12 ?_
    (try simp only [Act.put, List.setIfInBounds_toArray, List.set_cons_zero, List.set_cons_succ])
    refine tk 13 ?_
    (try simp only [Act.put, List.setIfInBounds_toArray, List.set_cons_zero, List.set_cons_succ])
    refine tk 14 ?_
    (try simp only [Act.put, List.setIfInBounds_toArray, List.set_cons_zero, List.set_cons_succ])
    refine tk 15 ?_
    (try simp only [Act.put, List.setIfInBounds_toArray, List.set_cons_zero, List.set_cons_succ])
    refine tk 16 ?_
    (try simp only [Act.put, List.setIfInBounds_toArray, List.set_cons_zero, List.set_cons_succ])
    refine tk 17 ?_
    (try simp only [Act.put, List.setIfInBounds_toArray, List.set_cons_zero, List.set_cons_succ])
    refine tk 18 ?_
    (try simp only [Act.put, List.setIfInBounds_toArray, List.set_cons_zero, List.set_cons_succ])
    refine tk 19 ?_
    (try simp only [Act.put, List.setIfInBounds_toArray, List.set_cons_zero, List.set_cons_succ])
    refine tk 20 ?_
    (try simp only [Act.put, List.setIfInBounds_toArray, List.set_cons_zero, List.set_cons_succ])
    refine tk 21 ?_
    (try simp only [Act.put, List.setIfInBounds_toArray, List.set_cons_zero, List.set_cons_succ])
    refine tk 22 ?_
    (try simp only [Act.put, List.setIfInBounds_toArray, List.set_cons_zero, List.set_cons_succ])
    refine tk 23 ?_
    (try simp only [Act.put, List.setIfInBounds_toArray, List.set_cons_zero, List.set_cons_succ])
    refine tk 24 ?_
    (try simp only [Act.put, List.setIfInBounds_toArray, List.set_cons_zero, List.set_cons_succ])
    refine tk 25 ?_
    (try simp only [Act.put, List.setIfInBounds_toArray, List.set_cons_zero, List.set_cons_succ])
    refine tk 26 ?_
    (try simp only [Act.put, List.setIfInBounds_toArray, List.set_cons_zero, List.set_cons_succ])
    refine tk 27 ?_
    (try simp only [Act.put, List.setIfInBounds_toArray, List.set_cons_zero, List.set_cons_succ])
    refine tk 28 ?_
    (try simp only [Act.put, List.setIfInBounds_toArray, List.set_cons_zero, List.set_cons_succ])
    refine wpAnyH_done (by kernel_rfl) ?_ _
    refine NoPanic.normal ?_
    go_wp2_with (first | ((with_reducible refine gate_box rfl ?_); refine aBx S ?_; clear S; intro g9 w9 z9 S) | ((with_reducible refine gate_alloc rfl ?_); refine aAl S ?_; clear S; intro g9 w9 z9 S) | ((with_reducible refine gate_load rfl ?_); first | refine aLd S ?_ | refine aPt S ?_ | refine aL1 S ?_) | ((with_reducible refine gate_st rfl ?_); (first | refine aS1 S ?_ | refine aSt S ?_ | refine aSp S ?_); clear S; intro w9 S))
    go_ret
    rw [E.out]
    exact ⟨rfl, _, (S.allLnk c I9 J9 h15).sub subA⟩
end Go.Proofs.Ytapdcgjccckjeaa
namespace Go.Proofs.Ytapdcgjccckjeaa
set_option maxRecDepth 100000
set_option linter.unusedVariables false
set_option linter.unusedSimpArgs false
open Go.RowKit
set_option maxHeartbeats 12800000 in
theorem get_c (w0 w : World) (L : List Asrt) (g : Nat) (c : Ch) (F : List Nat) (S : Sep [] w0 (aLnk g c F :: L) w) (hc : okCh c = true) (s : St) (v1 v2 v3 v4 : Value) (h2 : tSt.rd w0 s [.int .i64 s.way, .int .i64 s.vsn, .int .i64 s.want, v1, v2, v3, v4]) (hs : okSt s = true) (h : Int) (p : Pk) (ho : okPk p = true) :
    Calls Try.prog 119 #[.pointer (some ⟨g, 0, none⟩), .agg #[.int .i64 s.way, .int .i64 s.vsn, .int .i64 s.want, v1, v2, v3, v4, .int .i64 h], .agg #[.int .i64 p.seq, .int .i64 p.kind, .int .i64 p.frm, .int .i64 p.dst, .int .i64 p.sum, .int .i64 p.til, .int .i64 p.ver]] w fun e w' => e = .returned (.bool (getOk c s p)) ∧ ∃ F', Sep [] w0 (aLnk g (getC c s p) F' :: L) w' := by
  have o1 := tSt_rd_one h2
  have HC := Lib.hid hc
  have HS := Lib.hid hs
  have H2 := Lib.hid h2
  have HO := Lib.hid ho
  cases e : getOk c s p with
  | false =>
    have E := Lib.hid e
    have EC := Lib.hid (show getC c s p = c by unfold getC; rw [e]; rfl)
    clear e hc hs h2 ho
    go_enter Try.func119, Try.ntmps119
    go_wp2_with (first
      | (go_at_call 144; go_loud ((with_reducible refine (mayGet_c w0 _ _ g c F (S.pull (a := aLnk g c F) delA) HC.out s v1 v2 v3 v4 H2.out HS.out h p HO.out).mono ?_); rintro e w9 ⟨rfl, F9, T9⟩; rw [E.out]; replace S := T9; clear T9))
      | ((with_reducible refine gate_box rfl ?_); refine aBx S ?_; clear S; intro g9 w9 z9 S) | ((with_reducible refine gate_alloc rfl ?_); refine aAl S ?_; clear S; intro g9 w9 z9 S) | ((with_reducible refine gate_load rfl ?_); first | refine aLd S ?_ | refine aPt S ?_ | refine aL1 S ?_) | ((with_reducible refine gate_st rfl ?_); (first | refine aS1 S ?_ | refine aSt S ?_ | refine aSp S ?_); clear S; intro w9 S))
    go_ret
    rw [EC.out]
    exact ⟨rfl, _, S.sub subA⟩
  | true =>
  obtain ⟨q1, q2, q3, q4, q5, q6⟩ := okCh_parts hc
  have ll := okSt_len q3
  have bd := okPk_iff.1 ho
  obtain ⟨sq, kd, fr, ds, sm, tl, vr⟩ := p
  simp only at bd
  dsimp only
  obtain ⟨m, rfl⟩ : ∃ m : Nat, sq = (m : Int) + 1 := ⟨(sq - 1).toNat, by omega⟩
  have HB := Lib.hid q2
  have HL := Lib.hid (show m < c.st.got.length by omega)
  have LS := Lib.hid (show m < (c.st.got.set m 2).length by simp; omega)
  have SS := Lib.hid (show (c.st.got.set m 2).set m 1 = c.st.got.set m 1 by rw [List.set_set])
  have L2 := Lib.hid (show (c.st.got.set m 2).length = c.st.got.length by simp)
  have L1 := Lib.hid (show (c.st.got.set m 1).length = (c.st.got.set m 2).length by simp)
  have zs := Lib.hid (show 0 ≤ sm ∧ sm ≤ 30 by omega)
  have p0 : (0 : Int) ≤ (m : Int) := Int.natCast_nonneg _
  have p2 : (m : Int) < (c.st.got.length : Int) := by omega
  have w1 : IntKind.i64.wrap ((m : Int) + 1 - 1) = (m : Int) := by rw [Int.add_sub_cancel]; exact IntWalk.i64_in _ (by omega)
  have w2 : IntKind.i64.wrap (m : Int) = (m : Int) := IntWalk.i64_in _ (by omega)
  have E := Lib.hid e
  have G0 := Lib.hid (show getC c s ⟨(m : Int) + 1, kd, fr, ds, sm, tl, vr⟩ = ⟨c.id, payBk c.bank ⟨(m : Int) + 1, kd, fr, ds, sm, tl, vr⟩, ⟨c.st.way, c.st.vsn, c.st.want, c.st.sent, c.st.live, c.st.back, c.st.got.set m (payN c.bank ⟨(m : Int) + 1, kd, fr, ds, sm, tl, vr⟩)⟩, c.past, c.knows⟩ by unfold getC; rw [e, if_pos rfl]; simp only []; rw [show ((m : Int) + 1 - 1).toNat = m by omega]; rfl)
  clear e hc hs h2 ho q1 q2 q3 q4 q5 q6 ll
  by_cases e0 : ds = 0
  · subst e0
    have EC := Lib.hid (show getC c s ⟨(m : Int) + 1, kd, fr, 0, sm, tl, vr⟩ = ⟨c.id, c.bank, ⟨c.st.way, c.st.vsn, c.st.want, c.st.sent, c.st.live, c.st.back, c.st.got.set m 2⟩, c.past, c.knows⟩ from G0.out)
    clear bd
    go_enter Try.func119, Try.ntmps119
    go_wp2_with (first
      | ((with_reducible refine gate_dst (N := 5) rfl ?_); refine aBx S ?_; clear S; intro gP w9 z9 S)
      | (go_at_call 144; go_loud ((with_reducible refine (mayGet_c w0 _ _ g c F (S.pull (a := aLnk g c F) delA) HC.out s v1 v2 v3 v4 H2.out HS.out h ⟨(m : Int) + 1, kd, fr, 0, sm, tl, vr⟩ HO.out).mono ?_); rintro e w9 ⟨rfl, F9, T9⟩; rw [E.out]; obtain ⟨A1, m1, A2, m2, B1, n1, B2, n2, B3, n3, B4, n4, q, A5, m5, Y1, Y2, Z1, Z2, Z3, Z4, M1, K1, I9, J9, h15, S9⟩ := T9.openLnk; obtain ⟨g7, r7, e7⟩ := (S9.row (d := tInt) (xs := c.st.got) (F := Z4) (e := 3) memA).shape (Nat.lt_of_le_of_lt (Nat.zero_le _) HL.out); simp only [Value.slice.injEq, true_and] at e7; obtain ⟨rfl, rfl⟩ := e7; replace S := S9; clear S9 T9))
      | ((with_reducible refine gate_box rfl ?_); refine aBx S ?_; clear S; intro g9 w9 z9 S) | ((with_reducible refine gate_alloc rfl ?_); refine aAl S ?_; clear S; intro g9 w9 z9 S) | ((with_reducible refine gate_load rfl ?_); first | refine aLd S ?_ | refine aPt S ?_ | refine aL1 S ?_) | ((with_reducible refine gate_st rfl ?_); (first | refine aS1 S ?_ | refine aSt S ?_ | refine aSp S ?_); clear S; intro w9 S))
    have S0 := (Sep.only2 (a1 := aBox g 136 _ _) (a2 := aBox gP 88 _ _) S delA delA)
    refine wp_region_noPanic ?_
    refine wp_region_held_drew (S := Sep _ _ _) (by kernel_rfl) S0.drew (fun _ => ?_)
    replace S := S.drew
    clear S0
    refine tk 0 ?_
    (try simp only [Act.put, List.setIfInBounds_toArray, List.set_cons_zero, List.set_cons_succ])
    refine tk 1 ?_
    (try simp only [Act.put, List.setIfInBounds_toArray, List.set_cons_zero, List.set_cons_succ])
    refine tk 2 ?_
    (try simp only [Act.put, List.setIfInBounds_toArray, List.set_cons_zero, List.set_cons_succ])
    refine tk 3 ?_
    (try simp only [Act.put, List.setIfInBounds_toArray, List.set_cons_zero, List.set_cons_succ])
    refine tk 4 ?_
    (try simp only [Act.put, List.setIfInBounds_toArray, List.set_cons_zero, List.set_cons_succ])
    refine tk 5 ?_
    (try simp only [Act.put, List.setIfInBounds_toArray, List.set_cons_zero, List.set_cons_succ])
    refine tk 6 ?_
    (try simp only [Act.put, List.setIfInBounds_toArray, List.set_cons_zero, List.set_cons_succ])
    refine tk 7 ?_
    (try simp only [Act.put, List.setIfInBounds_toArray, List.set_cons_zero, List.set_cons_succ])
    refine tk 8 ?_
    (try simp only [Act.put, List.setIfInBounds_toArray, List.set_cons_zero, List.set_cons_succ])
    refine rdy1 9 (fun K hK => ?_)
    refine rgElP (d := tInt) (xs := c.st.got) (x := 2) (k := m) S delA (el1_int 2) HL.out ?_; clear S; intro G9 w9 S
    (first | refine hK.out _ _ (S.sub subA) (fun _ => ?_) | (go_wp2_with fail; refine hK.out _ _ (S.sub subA) (fun _ => ?_)))
    clear hK K
    (try simp only [Act.put, List.setIfInBounds_toArray, List.set_cons_zero, List.set_cons_succ])
    refine wpAnyH_done (by kernel_rfl) ?_ _
    refine NoPanic.normal ?_
    go_wp2_with (first | ((with_reducible refine gate_box rfl ?_); refine aBx S ?_; clear S; intro g9 w9 z9 S) | ((with_reducible refine gate_alloc rfl ?_); refine aAl S ?_; clear S; intro g9 w9 z9 S) | ((with_reducible refine gate_load rfl ?_); first | refine aLd S ?_ | refine aPt S ?_ | refine aL1 S ?_) | ((with_reducible refine gate_st rfl ?_); (first | refine aS1 S ?_ | refine aSt S ?_ | refine aSp S ?_); clear S; intro w9 S))
    have S := S.allLnk ⟨c.id, c.bank, ⟨c.st.way, c.st.vsn, c.st.want, c.st.sent, c.st.live, c.st.back, c.st.got.set m 2⟩, c.past, c.knows⟩ I9 J9 h15
    go_ret
    rw [EC.out]
    exact ⟨rfl, _, S.sub subA⟩
  have d0 : (ds == 0) = false := by simpa using e0
  have zd := Lib.hid (show 1 ≤ ds ∧ ds ≤ 3 by omega)
  rcases (by omega : kd = 1 ∨ kd = 2) with rfl | rfl
  · have P0 : payOk c.bank ⟨(m : Int) + 1, 1, fr, ds, sm, tl, vr⟩ = bkMay c.bank 2 sm := by unfold payOk; simp only [decide_eq_false e0]; rfl
    clear bd
    cases hm : bkMay c.bank 2 sm with
    | false =>
      have EC := Lib.hid (show getC c s ⟨(m : Int) + 1, 1, fr, ds, sm, tl, vr⟩ = ⟨c.id, c.bank, ⟨c.st.way, c.st.vsn, c.st.want, c.st.sent, c.st.live, c.st.back, c.st.got.set m 2⟩, c.past, c.knows⟩ by rw [G0.out]; unfold payBk payN; rw [P0, hm]; rfl)
      have HM := Lib.hid hm
      clear P0 hm e0 G0
      go_enter Try.func119, Try.ntmps119
      go_wp2_with (first
        | ((with_reducible refine gate_dst (N := 5) rfl ?_); refine aBx S ?_; clear S; intro gP w9 z9 S)
        | (go_at_call 144; go_loud ((with_reducible refine (mayGet_c w0 _ _ g c F (S.pull (a := aLnk g c F) delA) HC.out s v1 v2 v3 v4 H2.out HS.out h ⟨(m : Int) + 1, 1, fr, ds, sm, tl, vr⟩ HO.out).mono ?_); rintro e w9 ⟨rfl, F9, T9⟩; rw [E.out]; obtain ⟨A1, m1, A2, m2, B1, n1, B2, n2, B3, n3, B4, n4, q, A5, m5, Y1, Y2, Z1, Z2, Z3, Z4, M1, K1, I9, J9, h15, S9⟩ := T9.openLnk; obtain ⟨g7, r7, e7⟩ := (S9.row (d := tInt) (xs := c.st.got) (F := Z4) (e := 3) memA).shape (Nat.lt_of_le_of_lt (Nat.zero_le _) HL.out); simp only [Value.slice.injEq, true_and] at e7; obtain ⟨rfl, rfl⟩ := e7; replace S := S9; clear S9 T9))
        | ((with_reducible refine gate_box rfl ?_); refine aBx S ?_; clear S; intro g9 w9 z9 S) | ((with_reducible refine gate_alloc rfl ?_); refine aAl S ?_; clear S; intro g9 w9 z9 S) | ((with_reducible refine gate_load rfl ?_); first | refine aLd S ?_ | refine aPt S ?_ | refine aL1 S ?_) | ((with_reducible refine gate_st rfl ?_); (first | refine aS1 S ?_ | refine aSt S ?_ | refine aSp S ?_); clear S; intro w9 S))
      have S0 := (Sep.only2 (a1 := aBox g 136 _ _) (a2 := aBox gP 88 _ _) S delA delA)
      refine wp_region_noPanic ?_
      refine wp_region_held_drew (S := Sep _ _ _) (by kernel_rfl) S0.drew (fun _ => ?_)
      replace S := S.drew
      clear S0
      refine tk 0 ?_
      (try simp only [Act.put, List.setIfInBounds_toArray, List.set_cons_zero, List.set_cons_succ])
      refine tk 1 ?_
      (try simp only [Act.put, List.setIfInBounds_toArray, List.set_cons_zero, List.set_cons_succ])
      refine tk 2 ?_
      (try simp only [Act.put, List.setIfInBounds_toArray, List.set_cons_zero, List.set_cons_succ])
      refine tk 3 ?_
      (try simp only [Act.put, List.setIfInBounds_toArray, List.set_cons_zero, List.set_cons_succ])
      refine tk 4 ?_
      (try simp only [Act.put, List.setIfInBounds_toArray, List.set_cons_zero, List.set_cons_succ])
      refine tk 5 ?_
      (try simp only [Act.put, List.setIfInBounds_toArray, List.set_cons_zero, List.set_cons_succ])
      refine tk 6 ?_
      (try simp only [Act.put, List.setIfInBounds_toArray, List.set_cons_zero, List.set_cons_succ])
      refine tk 7 ?_
      (try simp only [Act.put, List.setIfInBounds_toArray, List.set_cons_zero, List.set_cons_succ])
      refine tk 8 ?_
      (try simp only [Act.put, List.setIfInBounds_toArray, List.set_cons_zero, List.set_cons_succ])
      refine rdy1 9 (fun K hK => ?_)
      refine rgElP (d := tInt) (xs := c.st.got) (x := 2) (k := m) S delA (el1_int 2) HL.out ?_; clear S; intro G9 w9 S
      (first | refine hK.out _ _ (S.sub subA) (fun _ => ?_) | (go_wp2_with fail; refine hK.out _ _ (S.sub subA) (fun _ => ?_)))
      clear hK K
      (try simp only [Act.put, List.setIfInBounds_toArray, List.set_cons_zero, List.set_cons_succ])
      refine wpAnyH_done (by kernel_rfl) ?_ _
      refine NoPanic.normal ?_
      go_wp2_with (first | ((with_reducible refine gate_box rfl ?_); refine aBx S ?_; clear S; intro g9 w9 z9 S) | ((with_reducible refine gate_alloc rfl ?_); refine aAl S ?_; clear S; intro g9 w9 z9 S) | ((with_reducible refine gate_load rfl ?_); first | refine aLd S ?_ | refine aPt S ?_ | refine aL1 S ?_) | ((with_reducible refine gate_st rfl ?_); (first | refine aS1 S ?_ | refine aSt S ?_ | refine aSp S ?_); clear S; intro w9 S))
      have S0 := (Sep.only2 (a1 := aBox g 136 _ _) (a2 := aBox gP 88 _ _) S delA delA)
      refine wp_region_noPanic ?_
      refine wp_region_held_drew (S := Sep _ _ _) (by kernel_rfl) S0.drew (fun _ => ?_)
      replace S := S.drew
      clear S0
      refine tk 0 ?_
      (try simp only [Act.put, List.setIfInBounds_toArray, List.set_cons_zero, List.set_cons_succ])
      refine tk 1 ?_
      (try simp only [Act.put, List.setIfInBounds_toArray, List.set_cons_zero, List.set_cons_succ])
      refine tk 2 ?_
      (try simp only [Act.put, List.setIfInBounds_toArray, List.set_cons_zero, List.set_cons_succ])
      refine tk 3 ?_
      (try simp only [Act.put, List.setIfInBounds_toArray, List.set_cons_zero, List.set_cons_succ])
      refine tk 4 ?_
      (try simp only [Act.put, List.setIfInBounds_toArray, List.set_cons_zero, List.set_cons_succ])
      refine tk 5 ?_
      (try simp only [Act.put, List.setIfInBounds_toArray, List.set_cons_zero, List.set_cons_succ])
      refine tk 6 ?_
      (try simp only [Act.put, List.setIfInBounds_toArray, List.set_cons_zero, List.set_cons_succ])
      refine tk 7 ?_
      (try simp only [Act.put, List.setIfInBounds_toArray, List.set_cons_zero, List.set_cons_succ])
      refine tk 8 ?_
      (try simp only [Act.put, List.setIfInBounds_toArray, List.set_cons_zero, List.set_cons_succ])
      refine rdys [9, 13] ?_
      refine rdc 9 (fun K hK => ?_) ?_
      · go_simp; (skip; go_at_call 145; (with_reducible refine (BankBack_yf _ c.bank [.slice A1 c.bank.own.length m1, .slice A2 c.bank.notes.length m2, .int .i64 c.bank.locked] (tBk_mk (S.row (d := tInt) (xs := c.bank.own) (F := Y1) (e := 3) memA).row (S.row (d := tInt) (xs := c.bank.notes) (F := Y2) (e := 3) memA).row I9) HB.out 2 ds sm (by decide) zd.out zs.out HM.out).mono ?_); rintro e w9 ⟨cs9, F9, rfl, h9, n9, b9, f9⟩; replace S := S.new (aOwn tBk _ cs9 F9) h9 n9 b9 f9; clear h9 n9 b9 f9; obtain ⟨x1, x2, X1, X2, rfl, rfl, I8, S9⟩ := S.openBk; replace S := S9; clear S9)
        (first | refine hK.out _ _ (S.sub subA) (fun _ => ?_) | (go_wp2_with fail; refine hK.out _ _ (S.sub subA) (fun _ => ?_)))
        clear hK K
        (try simp only [Act.put, List.setIfInBounds_toArray, List.set_cons_zero, List.set_cons_succ])
        refine tk 10 ?_
        (try simp only [Act.put, List.setIfInBounds_toArray, List.set_cons_zero, List.set_cons_succ])
        refine tk 11 ?_
        (try simp only [Act.put, List.setIfInBounds_toArray, List.set_cons_zero, List.set_cons_succ])
        refine tk 12 ?_
        (try simp only [Act.put, List.setIfInBounds_toArray, List.set_cons_zero, List.set_cons_succ])
        refine rdy1 13 (fun K hK => ?_)
        refine rgAl S ?_; clear S; intro g9 w9 z9 S
        (first | refine hK.out _ _ (S.sub subA) (fun _ => ?_) | (go_wp2_with fail; refine hK.out _ _ (S.sub subA) (fun _ => ?_)))
        clear hK K
        (try simp only [Act.put, List.setIfInBounds_toArray, List.set_cons_zero, List.set_cons_succ])
        refine rdy1 14 (fun K hK => ?_)
        (first | refine rgS1 S ?_ | refine rgSt S ?_ | refine rgSp S ?_); clear S; intro w9 S
        (first | refine hK.out _ _ (S.sub subA) (fun _ => ?_) | (go_wp2_with fail; refine hK.out _ _ (S.sub subA) (fun _ => ?_)))
        clear hK K
        (try simp only [Act.put, List.setIfInBounds_toArray, List.set_cons_zero, List.set_cons_succ])
        refine tk 15 ?_
        (try simp only [Act.put, List.setIfInBounds_toArray, List.set_cons_zero, List.set_cons_succ])
        refine wpAnyH_done (by kernel_rfl) ?_ _
        refine NoPanic.normal ?_
        go_wp2_with (first | ((with_reducible refine gate_box rfl ?_); refine aBx S ?_; clear S; intro g9 w9 z9 S) | ((with_reducible refine gate_alloc rfl ?_); refine aAl S ?_; clear S; intro g9 w9 z9 S) | ((with_reducible refine gate_load rfl ?_); first | refine aLd S ?_ | refine aPt S ?_ | refine aL1 S ?_) | ((with_reducible refine gate_st rfl ?_); (first | refine aS1 S ?_ | refine aSt S ?_ | refine aSp S ?_); clear S; intro w9 S))
        have S := S.allLnk ⟨c.id, c.bank, ⟨c.st.way, c.st.vsn, c.st.want, c.st.sent, c.st.live, c.st.back, c.st.got.set m 2⟩, c.past, c.knows⟩ I9 J9 h15
        go_ret
        rw [EC.out]
        exact ⟨rfl, _, S.sub subA⟩
      refine rdc 13 (fun K hK => ?_) AllReadyH.nil
      refine rgAl S ?_; clear S; intro g9 w9 z9 S
      (first | refine hK.out _ _ (S.sub subA) (fun _ => ?_) | (go_wp2_with fail; refine hK.out _ _ (S.sub subA) (fun _ => ?_)))
      clear hK K
      (try simp only [Act.put, List.setIfInBounds_toArray, List.set_cons_zero, List.set_cons_succ])
      refine rdy1 9 (fun K hK => ?_)
      go_simp; (skip; go_at_call 145; (with_reducible refine (BankBack_yf _ c.bank [.slice A1 c.bank.own.length m1, .slice A2 c.bank.notes.length m2, .int .i64 c.bank.locked] (tBk_mk (S.row (d := tInt) (xs := c.bank.own) (F := Y1) (e := 3) memA).row (S.row (d := tInt) (xs := c.bank.notes) (F := Y2) (e := 3) memA).row I9) HB.out 2 ds sm (by decide) zd.out zs.out HM.out).mono ?_); rintro e w9 ⟨cs9, F9, rfl, h9, n9, b9, f9⟩; replace S := S.new (aOwn tBk _ cs9 F9) h9 n9 b9 f9; clear h9 n9 b9 f9; obtain ⟨x1, x2, X1, X2, rfl, rfl, I8, S9⟩ := S.openBk; replace S := S9; clear S9)
      (first | refine hK.out _ _ (S.sub subA) (fun _ => ?_) | (go_wp2_with fail; refine hK.out _ _ (S.sub subA) (fun _ => ?_)))
      clear hK K
      (try simp only [Act.put, List.setIfInBounds_toArray, List.set_cons_zero, List.set_cons_succ])
      refine tk 10 ?_
      (try simp only [Act.put, List.setIfInBounds_toArray, List.set_cons_zero, List.set_cons_succ])
      refine tk 11 ?_
      (try simp only [Act.put, List.setIfInBounds_toArray, List.set_cons_zero, List.set_cons_succ])
      refine tk 12 ?_
      (try simp only [Act.put, List.setIfInBounds_toArray, List.set_cons_zero, List.set_cons_succ])
      refine rdy1 14 (fun K hK => ?_)
      (first | refine rgS1 S ?_ | refine rgSt S ?_ | refine rgSp S ?_); clear S; intro w9 S
      (first | refine hK.out _ _ (S.sub subA) (fun _ => ?_) | (go_wp2_with fail; refine hK.out _ _ (S.sub subA) (fun _ => ?_)))
      clear hK K
      (try simp only [Act.put, List.setIfInBounds_toArray, List.set_cons_zero, List.set_cons_succ])
      refine tk 15 ?_
      (try simp only [Act.put, List.setIfInBounds_toArray, List.set_cons_zero, List.set_cons_succ])
      refine wpAnyH_done (by kernel_rfl) ?_ _
      refine NoPanic.normal ?_
      go_wp2_with (first | ((with_reducible refine gate_box rfl ?_); refine aBx S ?_; clear S; intro g9 w9 z9 S) | ((with_reducible refine gate_alloc rfl ?_); refine aAl S ?_; clear S; intro g9 w9 z9 S) | ((with_reducible refine gate_load rfl ?_); first | refine aLd S ?_ | refine aPt S ?_ | refine aL1 S ?_) | ((with_reducible refine gate_st rfl ?_); (first | refine aS1 S ?_ | refine aSt S ?_ | refine aSp S ?_); clear S; intro w9 S))
      have S := S.allLnk ⟨c.id, c.bank, ⟨c.st.way, c.st.vsn, c.st.want, c.st.sent, c.st.live, c.st.back, c.st.got.set m 2⟩, c.past, c.knows⟩ I9 J9 h15
      go_ret
      rw [EC.out]
      exact ⟨rfl, _, S.sub subA⟩
    | true =>
      obtain ⟨x, hx⟩ : ∃ x, backBk c.bank 2 ds sm = x := ⟨_, rfl⟩
      have EC := Lib.hid (show getC c s ⟨(m : Int) + 1, 1, fr, ds, sm, tl, vr⟩ = ⟨c.id, x, ⟨c.st.way, c.st.vsn, c.st.want, c.st.sent, c.st.live, c.st.back, c.st.got.set m 1⟩, c.past, c.knows⟩ by rw [G0.out]; unfold payBk payN; rw [P0, hm, ← hx]; rfl)
      have HM := Lib.hid hm
      have HX := Lib.hid hx
      clear P0 hm e0 G0 hx
      go_enter Try.func119, Try.ntmps119
      go_wp2_with (first
        | ((with_reducible refine gate_dst (N := 5) rfl ?_); refine aBx S ?_; clear S; intro gP w9 z9 S)
        | (go_at_call 144; go_loud ((with_reducible refine (mayGet_c w0 _ _ g c F (S.pull (a := aLnk g c F) delA) HC.out s v1 v2 v3 v4 H2.out HS.out h ⟨(m : Int) + 1, 1, fr, ds, sm, tl, vr⟩ HO.out).mono ?_); rintro e w9 ⟨rfl, F9, T9⟩; rw [E.out]; obtain ⟨A1, m1, A2, m2, B1, n1, B2, n2, B3, n3, B4, n4, q, A5, m5, Y1, Y2, Z1, Z2, Z3, Z4, M1, K1, I9, J9, h15, S9⟩ := T9.openLnk; obtain ⟨g7, r7, e7⟩ := (S9.row (d := tInt) (xs := c.st.got) (F := Z4) (e := 3) memA).shape (Nat.lt_of_le_of_lt (Nat.zero_le _) HL.out); simp only [Value.slice.injEq, true_and] at e7; obtain ⟨rfl, rfl⟩ := e7; replace S := S9; clear S9 T9))
        | ((with_reducible refine gate_box rfl ?_); refine aBx S ?_; clear S; intro g9 w9 z9 S) | ((with_reducible refine gate_alloc rfl ?_); refine aAl S ?_; clear S; intro g9 w9 z9 S) | ((with_reducible refine gate_load rfl ?_); first | refine aLd S ?_ | refine aPt S ?_ | refine aL1 S ?_) | ((with_reducible refine gate_st rfl ?_); (first | refine aS1 S ?_ | refine aSt S ?_ | refine aSp S ?_); clear S; intro w9 S))
      have S0 := (Sep.only2 (a1 := aBox g 136 _ _) (a2 := aBox gP 88 _ _) S delA delA)
      refine wp_region_noPanic ?_
      refine wp_region_held_drew (S := Sep _ _ _) (by kernel_rfl) S0.drew (fun _ => ?_)
      replace S := S.drew
      clear S0
      refine tk 0 ?_
      (try simp only [Act.put, List.setIfInBounds_toArray, List.set_cons_zero, List.set_cons_succ])
      refine tk 1 ?_
      (try simp only [Act.put, List.setIfInBounds_toArray, List.set_cons_zero, List.set_cons_succ])
      refine tk 2 ?_
      (try simp only [Act.put, List.setIfInBounds_toArray, List.set_cons_zero, List.set_cons_succ])
      refine tk 3 ?_
      (try simp only [Act.put, List.setIfInBounds_toArray, List.set_cons_zero, List.set_cons_succ])
      refine tk 4 ?_
      (try simp only [Act.put, List.setIfInBounds_toArray, List.set_cons_zero, List.set_cons_succ])
      refine tk 5 ?_
      (try simp only [Act.put, List.setIfInBounds_toArray, List.set_cons_zero, List.set_cons_succ])
      refine tk 6 ?_
      (try simp only [Act.put, List.setIfInBounds_toArray, List.set_cons_zero, List.set_cons_succ])
      refine tk 7 ?_
      (try simp only [Act.put, List.setIfInBounds_toArray, List.set_cons_zero, List.set_cons_succ])
      refine tk 8 ?_
      (try simp only [Act.put, List.setIfInBounds_toArray, List.set_cons_zero, List.set_cons_succ])
      refine rdy1 9 (fun K hK => ?_)
      refine rgElP (d := tInt) (xs := c.st.got) (x := 2) (k := m) S delA (el1_int 2) HL.out ?_; clear S; intro G9 w9 S
      (first | refine hK.out _ _ (S.sub subA) (fun _ => ?_) | (go_wp2_with fail; refine hK.out _ _ (S.sub subA) (fun _ => ?_)))
      clear hK K
      (try simp only [Act.put, List.setIfInBounds_toArray, List.set_cons_zero, List.set_cons_succ])
      refine wpAnyH_done (by kernel_rfl) ?_ _
      refine NoPanic.normal ?_
      go_wp2_with (first | ((with_reducible refine gate_box rfl ?_); refine aBx S ?_; clear S; intro g9 w9 z9 S) | ((with_reducible refine gate_alloc rfl ?_); refine aAl S ?_; clear S; intro g9 w9 z9 S) | ((with_reducible refine gate_load rfl ?_); first | refine aLd S ?_ | refine aPt S ?_ | refine aL1 S ?_) | ((with_reducible refine gate_st rfl ?_); (first | refine aS1 S ?_ | refine aSt S ?_ | refine aSp S ?_); clear S; intro w9 S))
      have S0 := (Sep.only2 (a1 := aBox g 136 _ _) (a2 := aBox gP 88 _ _) S delA delA)
      refine wp_region_noPanic ?_
      refine wp_region_held_drew (S := Sep _ _ _) (by kernel_rfl) S0.drew (fun _ => ?_)
      replace S := S.drew
      clear S0
      refine tk 0 ?_
      (try simp only [Act.put, List.setIfInBounds_toArray, List.set_cons_zero, List.set_cons_succ])
      refine tk 1 ?_
      (try simp only [Act.put, List.setIfInBounds_toArray, List.set_cons_zero, List.set_cons_succ])
      refine tk 2 ?_
      (try simp only [Act.put, List.setIfInBounds_toArray, List.set_cons_zero, List.set_cons_succ])
      refine tk 3 ?_
      (try simp only [Act.put, List.setIfInBounds_toArray, List.set_cons_zero, List.set_cons_succ])
      refine tk 4 ?_
      (try simp only [Act.put, List.setIfInBounds_toArray, List.set_cons_zero, List.set_cons_succ])
      refine tk 5 ?_
      (try simp only [Act.put, List.setIfInBounds_toArray, List.set_cons_zero, List.set_cons_succ])
      refine tk 6 ?_
      (try simp only [Act.put, List.setIfInBounds_toArray, List.set_cons_zero, List.set_cons_succ])
      refine tk 7 ?_
      (try simp only [Act.put, List.setIfInBounds_toArray, List.set_cons_zero, List.set_cons_succ])
      refine tk 8 ?_
      (try simp only [Act.put, List.setIfInBounds_toArray, List.set_cons_zero, List.set_cons_succ])
      refine rdys [9, 13] ?_
      refine rdc 9 (fun K hK => ?_) ?_
      · go_simp; (skip; go_at_call 145; (with_reducible refine (BankBack_yt _ c.bank [.slice A1 c.bank.own.length m1, .slice A2 c.bank.notes.length m2, .int .i64 c.bank.locked] (tBk_mk (S.row (d := tInt) (xs := c.bank.own) (F := Y1) (e := 3) memA).row (S.row (d := tInt) (xs := c.bank.notes) (F := Y2) (e := 3) memA).row I9) HB.out 2 ds sm (by decide) zd.out zs.out HM.out).mono ?_); rintro e w9 ⟨cs9, F9, rfl, h9, n9, b9, f9⟩; replace S := S.new (aOwn tBk _ cs9 F9) h9 n9 b9 f9; clear h9 n9 b9 f9; rw [HX.out] at S; obtain ⟨x1, x2, X1, X2, rfl, rfl, I8, S9⟩ := S.openBk; replace S := S9; clear S9)
        (first | refine hK.out _ _ (S.sub subA) (fun _ => ?_) | (go_wp2_with fail; refine hK.out _ _ (S.sub subA) (fun _ => ?_)))
        clear hK K
        (try simp only [Act.put, List.setIfInBounds_toArray, List.set_cons_zero, List.set_cons_succ])
        refine tk 10 ?_
        (try simp only [Act.put, List.setIfInBounds_toArray, List.set_cons_zero, List.set_cons_succ])
        refine tk 11 ?_
        (try simp only [Act.put, List.setIfInBounds_toArray, List.set_cons_zero, List.set_cons_succ])
        refine tk 12 ?_
        (try simp only [Act.put, List.setIfInBounds_toArray, List.set_cons_zero, List.set_cons_succ])
        refine rdy1 13 (fun K hK => ?_)
        refine rgAl S ?_; clear S; intro g9 w9 z9 S
        (first | refine hK.out _ _ (S.sub subA) (fun _ => ?_) | (go_wp2_with fail; refine hK.out _ _ (S.sub subA) (fun _ => ?_)))
        clear hK K
        (try simp only [Act.put, List.setIfInBounds_toArray, List.set_cons_zero, List.set_cons_succ])
        refine rdy1 14 (fun K hK => ?_)
        (first | refine rgS1 S ?_ | refine rgSt S ?_ | refine rgSp S ?_); clear S; intro w9 S
        (first | refine hK.out _ _ (S.sub subA) (fun _ => ?_) | (go_wp2_with fail; refine hK.out _ _ (S.sub subA) (fun _ => ?_)))
        clear hK K
        (try simp only [Act.put, List.setIfInBounds_toArray, List.set_cons_zero, List.set_cons_succ])
        refine tk 15 ?_
        (try simp only [Act.put, List.setIfInBounds_toArray, List.set_cons_zero, List.set_cons_succ])
        refine wpAnyH_done (by kernel_rfl) ?_ _
        refine NoPanic.normal ?_
        go_wp2_with (first | ((with_reducible refine gate_box rfl ?_); refine aBx S ?_; clear S; intro g9 w9 z9 S) | ((with_reducible refine gate_alloc rfl ?_); refine aAl S ?_; clear S; intro g9 w9 z9 S) | ((with_reducible refine gate_load rfl ?_); first | refine aLd S ?_ | refine aPt S ?_ | refine aL1 S ?_) | ((with_reducible refine gate_st rfl ?_); (first | refine aS1 S ?_ | refine aSt S ?_ | refine aSp S ?_); clear S; intro w9 S))
        have S0 := (Sep.only2 (a1 := aBox g 136 _ _) (a2 := aBox gP 88 _ _) S delA delA)
        refine wp_region_noPanic ?_
        refine wp_region_held_drew (S := Sep _ _ _) (by kernel_rfl) S0.drew (fun _ => ?_)
        replace S := S.drew
        clear S0
        refine tk 0 ?_
        (try simp only [Act.put, List.setIfInBounds_toArray, List.set_cons_zero, List.set_cons_succ])
        refine tk 1 ?_
        (try simp only [Act.put, List.setIfInBounds_toArray, List.set_cons_zero, List.set_cons_succ])
        refine tk 2 ?_
        (try simp only [Act.put, List.setIfInBounds_toArray, List.set_cons_zero, List.set_cons_succ])
        refine tk 3 ?_
        (try simp only [Act.put, List.setIfInBounds_toArray, List.set_cons_zero, List.set_cons_succ])
        refine tk 4 ?_
        (try simp only [Act.put, List.setIfInBounds_toArray, List.set_cons_zero, List.set_cons_succ])
        refine tk 5 ?_
        (try simp only [Act.put, List.setIfInBounds_toArray, List.set_cons_zero, List.set_cons_succ])
        refine tk 6 ?_
        (try simp only [Act.put, List.setIfInBounds_toArray, List.set_cons_zero, List.set_cons_succ])
        refine tk 7 ?_
        (try simp only [Act.put, List.setIfInBounds_toArray, List.set_cons_zero, List.set_cons_succ])
        refine tk 8 ?_
        (try simp only [Act.put, List.setIfInBounds_toArray, List.set_cons_zero, List.set_cons_succ])
        refine rdy1 9 (fun K hK => ?_)
        refine rgElP (d := tInt) (xs := c.st.got.set m 2) (x := 1) (k := m) S delA (el1_int 1) LS.out ?_; clear S; intro G9 w9 S; rw [SS.out] at S
        (first | refine hK.out _ _ (S.sub subA) (fun _ => ?_) | (go_wp2_with fail; refine hK.out _ _ (S.sub subA) (fun _ => ?_)))
        clear hK K
        (try simp only [Act.put, List.setIfInBounds_toArray, List.set_cons_zero, List.set_cons_succ])
        refine wpAnyH_done (by kernel_rfl) ?_ _
        refine NoPanic.normal ?_
        go_wp2_with (first | ((with_reducible refine gate_box rfl ?_); refine aBx S ?_; clear S; intro g9 w9 z9 S) | ((with_reducible refine gate_alloc rfl ?_); refine aAl S ?_; clear S; intro g9 w9 z9 S) | ((with_reducible refine gate_load rfl ?_); first | refine aLd S ?_ | refine aPt S ?_ | refine aL1 S ?_) | ((with_reducible refine gate_st rfl ?_); (first | refine aS1 S ?_ | refine aSt S ?_ | refine aSp S ?_); clear S; intro w9 S))
        have S := S.allLnk ⟨c.id, x, ⟨c.st.way, c.st.vsn, c.st.want, c.st.sent, c.st.live, c.st.back, c.st.got.set m 1⟩, c.past, c.knows⟩ I8 J9 h15
        go_ret
        rw [EC.out]
        exact ⟨rfl, _, S.sub subA⟩
      refine rdc 13 (fun K hK => ?_) AllReadyH.nil
      refine rgAl S ?_; clear S; intro g9 w9 z9 S
      (first | refine hK.out _ _ (S.sub subA) (fun _ => ?_) | (go_wp2_with fail; refine hK.out _ _ (S.sub subA) (fun _ => ?_)))
      clear hK K
      (try simp only [Act.put, List.setIfInBounds_toArray, List.set_cons_zero, List.set_cons_succ])
      refine rdy1 9 (fun K hK => ?_)
      go_simp; (skip; go_at_call 145; (with_reducible refine (BankBack_yt _ c.bank [.slice A1 c.bank.own.length m1, .slice A2 c.bank.notes.length m2, .int .i64 c.bank.locked] (tBk_mk (S.row (d := tInt) (xs := c.bank.own) (F := Y1) (e := 3) memA).row (S.row (d := tInt) (xs := c.bank.notes) (F := Y2) (e := 3) memA).row I9) HB.out 2 ds sm (by decide) zd.out zs.out HM.out).mono ?_); rintro e w9 ⟨cs9, F9, rfl, h9, n9, b9, f9⟩; replace S := S.new (aOwn tBk _ cs9 F9) h9 n9 b9 f9; clear h9 n9 b9 f9; rw [HX.out] at S; obtain ⟨x1, x2, X1, X2, rfl, rfl, I8, S9⟩ := S.openBk; replace S := S9; clear S9)
      (first | refine hK.out _ _ (S.sub subA) (fun _ => ?_) | (go_wp2_with fail; refine hK.out _ _ (S.sub subA) (fun _ => ?_)))
      clear hK K
      (try simp only [Act.put, List.setIfInBounds_toArray, List.set_cons_zero, List.set_cons_succ])
      refine tk 10 ?_
      (try simp only [Act.put, List.setIfInBounds_toArray, List.set_cons_zero, List.set_cons_succ])
      refine tk 11 ?_
      (try simp only [Act.put, List.setIfInBounds_toArray, List.set_cons_zero, List.set_cons_succ])
      refine tk 12 ?_
      (try simp only [Act.put, List.setIfInBounds_toArray, List.set_cons_zero, List.set_cons_succ])
      refine rdy1 14 (fun K hK => ?_)
      (first | refine rgS1 S ?_ | refine rgSt S ?_ | refine rgSp S ?_); clear S; intro w9 S
      (first | refine hK.out _ _ (S.sub subA) (fun _ => ?_) | (go_wp2_with fail; refine hK.out _ _ (S.sub subA) (fun _ => ?_)))
      clear hK K
      (try simp only [Act.put, List.setIfInBounds_toArray, List.set_cons_zero, List.set_cons_succ])
      refine tk 15 ?_
      (try simp only [Act.put, List.setIfInBounds_toArray, List.set_cons_zero, List.set_cons_succ])
      refine wpAnyH_done (by kernel_rfl) ?_ _
      refine NoPanic.normal ?_
      go_wp2_with (first | ((with_reducible refine gate_box rfl ?_); refine aBx S ?_; clear S; intro g9 w9 z9 S) | ((with_reducible refine gate_alloc rfl ?_); refine aAl S ?_; clear S; intro g9 w9 z9 S) | ((with_reducible refine gate_load rfl ?_); first | refine aLd S ?_ | refine aPt S ?_ | refine aL1 S ?_) | ((with_reducible refine gate_st rfl ?_); (first | refine aS1 S ?_ | refine aSt S ?_ | refine aSp S ?_); clear S; intro w9 S))
      have S0 := (Sep.only2 (a1 := aBox g 136 _ _) (a2 := aBox gP 88 _ _) S delA delA)
      refine wp_region_noPanic ?_
      refine wp_region_held_drew (S := Sep _ _ _) (by kernel_rfl) S0.drew (fun _ => ?_)
      replace S := S.drew
      clear S0
      refine tk 0 ?_
      (try simp only [Act.put, List.setIfInBounds_toArray, List.set_cons_zero, List.set_cons_succ])
      refine tk 1 ?_
      (try simp only [Act.put, List.setIfInBounds_toArray, List.set_cons_zero, List.set_cons_succ])
      refine tk 2 ?_
      (try simp only [Act.put, List.setIfInBounds_toArray, List.set_cons_zero, List.set_cons_succ])
      refine tk 3 ?_
      (try simp only [Act.put, List.setIfInBounds_toArray, List.set_cons_zero, List.set_cons_succ])
      refine tk 4 ?_
      (try simp only [Act.put, List.setIfInBounds_toArray, List.set_cons_zero, List.set_cons_succ])
      refine tk 5 ?_
      (try simp only [Act.put, List.setIfInBounds_toArray, List.set_cons_zero, List.set_cons_succ])
      refine tk 6 ?_
      (try simp only [Act.put, List.setIfInBounds_toArray, List.set_cons_zero, List.set_cons_succ])
      refine tk 7 ?_
      (try simp only [Act.put, List.setIfInBounds_toArray, List.set_cons_zero, List.set_cons_succ])
      refine tk 8 ?_
      (try simp only [Act.put, List.setIfInBounds_toArray, List.set_cons_zero, List.set_cons_succ])
      refine rdy1 9 (fun K hK => ?_)
      refine rgElP (d := tInt) (xs := c.st.got.set m 2) (x := 1) (k := m) S delA (el1_int 1) LS.out ?_; clear S; intro G9 w9 S; rw [SS.out] at S
      (first | refine hK.out _ _ (S.sub subA) (fun _ => ?_) | (go_wp2_with fail; refine hK.out _ _ (S.sub subA) (fun _ => ?_)))
      clear hK K
      (try simp only [Act.put, List.setIfInBounds_toArray, List.set_cons_zero, List.set_cons_succ])
      refine wpAnyH_done (by kernel_rfl) ?_ _
      refine NoPanic.normal ?_
      go_wp2_with (first | ((with_reducible refine gate_box rfl ?_); refine aBx S ?_; clear S; intro g9 w9 z9 S) | ((with_reducible refine gate_alloc rfl ?_); refine aAl S ?_; clear S; intro g9 w9 z9 S) | ((with_reducible refine gate_load rfl ?_); first | refine aLd S ?_ | refine aPt S ?_ | refine aL1 S ?_) | ((with_reducible refine gate_st rfl ?_); (first | refine aS1 S ?_ | refine aSt S ?_ | refine aSp S ?_); clear S; intro w9 S))
      have S := S.allLnk ⟨c.id, x, ⟨c.st.way, c.st.vsn, c.st.want, c.st.sent, c.st.live, c.st.back, c.st.got.set m 1⟩, c.past, c.knows⟩ I8 J9 h15
      go_ret
      rw [EC.out]
      exact ⟨rfl, _, S.sub subA⟩
  · have P0 : payOk c.bank ⟨(m : Int) + 1, 2, fr, ds, sm, tl, vr⟩ = bkMay c.bank 1 sm := by unfold payOk; simp only [decide_eq_false e0]; rfl
    clear bd
    cases hm : bkMay c.bank 1 sm with
    | false =>
      have EC := Lib.hid (show getC c s ⟨(m : Int) + 1, 2, fr, ds, sm, tl, vr⟩ = ⟨c.id, c.bank, ⟨c.st.way, c.st.vsn, c.st.want, c.st.sent, c.st.live, c.st.back, c.st.got.set m 2⟩, c.past, c.knows⟩ by rw [G0.out]; unfold payBk payN; rw [P0, hm]; rfl)
      have HM := Lib.hid hm
      clear P0 hm e0 G0
      go_enter Try.func119, Try.ntmps119
      go_wp2_with (first
        | ((with_reducible refine gate_dst (N := 5) rfl ?_); refine aBx S ?_; clear S; intro gP w9 z9 S)
        | (go_at_call 144; go_loud ((with_reducible refine (mayGet_c w0 _ _ g c F (S.pull (a := aLnk g c F) delA) HC.out s v1 v2 v3 v4 H2.out HS.out h ⟨(m : Int) + 1, 2, fr, ds, sm, tl, vr⟩ HO.out).mono ?_); rintro e w9 ⟨rfl, F9, T9⟩; rw [E.out]; obtain ⟨A1, m1, A2, m2, B1, n1, B2, n2, B3, n3, B4, n4, q, A5, m5, Y1, Y2, Z1, Z2, Z3, Z4, M1, K1, I9, J9, h15, S9⟩ := T9.openLnk; obtain ⟨g7, r7, e7⟩ := (S9.row (d := tInt) (xs := c.st.got) (F := Z4) (e := 3) memA).shape (Nat.lt_of_le_of_lt (Nat.zero_le _) HL.out); simp only [Value.slice.injEq, true_and] at e7; obtain ⟨rfl, rfl⟩ := e7; replace S := S9; clear S9 T9))
        | ((with_reducible refine gate_box rfl ?_); refine aBx S ?_; clear S; intro g9 w9 z9 S) | ((with_reducible refine gate_alloc rfl ?_); refine aAl S ?_; clear S; intro g9 w9 z9 S) | ((with_reducible refine gate_load rfl ?_); first | refine aLd S ?_ | refine aPt S ?_ | refine aL1 S ?_) | ((with_reducible refine gate_st rfl ?_); (first | refine aS1 S ?_ | refine aSt S ?_ | refine aSp S ?_); clear S; intro w9 S))
      have S0 := (Sep.only2 (a1 := aBox g 136 _ _) (a2 := aBox gP 88 _ _) S delA delA)
      refine wp_region_noPanic ?_
      refine wp_region_held_drew (S := Sep _ _ _) (by kernel_rfl) S0.drew (fun _ => ?_)
      replace S := S.drew
      clear S0
      refine tk 0 ?_
      (try simp only [Act.put, List.setIfInBounds_toArray, List.set_cons_zero, List.set_cons_succ])
      refine tk 1 ?_
      (try simp only [Act.put, List.setIfInBounds_toArray, List.set_cons_zero, List.set_cons_succ])
      refine tk 2 ?_
      (try simp only [Act.put, List.setIfInBounds_toArray, List.set_cons_zero, List.set_cons_succ])
      refine tk 3 ?_
      (try simp only [Act.put, List.setIfInBounds_toArray, List.set_cons_zero, List.set_cons_succ])
      refine tk 4 ?_
      (try simp only [Act.put, List.setIfInBounds_toArray, List.set_cons_zero, List.set_cons_succ])
      refine tk 5 ?_
      (try simp only [Act.put, List.setIfInBounds_toArray, List.set_cons_zero, List.set_cons_succ])
      refine tk 6 ?_
      (try simp only [Act.put, List.setIfInBounds_toArray, List.set_cons_zero, List.set_cons_succ])
      refine tk 7 ?_
      (try simp only [Act.put, List.setIfInBounds_toArray, List.set_cons_zero, List.set_cons_succ])
      refine tk 8 ?_
      (try simp only [Act.put, List.setIfInBounds_toArray, List.set_cons_zero, List.set_cons_succ])
      refine rdy1 9 (fun K hK => ?_)
      refine rgElP (d := tInt) (xs := c.st.got) (x := 2) (k := m) S delA (el1_int 2) HL.out ?_; clear S; intro G9 w9 S
      (first | refine hK.out _ _ (S.sub subA) (fun _ => ?_) | (go_wp2_with fail; refine hK.out _ _ (S.sub subA) (fun _ => ?_)))
      clear hK K
      (try simp only [Act.put, List.setIfInBounds_toArray, List.set_cons_zero, List.set_cons_succ])
      refine wpAnyH_done (by kernel_rfl) ?_ _
      refine NoPanic.normal ?_
      go_wp2_with (first | ((with_reducible refine gate_box rfl ?_); refine aBx S ?_; clear S; intro g9 w9 z9 S) | ((with_reducible refine gate_alloc rfl ?_); refine aAl S ?_; clear S; intro g9 w9 z9 S) | ((with_reducible refine gate_load rfl ?_); first | refine aLd S ?_ | refine aPt S ?_ | refine aL1 S ?_) | ((with_reducible refine gate_st rfl ?_); (first | refine aS1 S ?_ | refine aSt S ?_ | refine aSp S ?_); clear S; intro w9 S))
      have S0 := (Sep.only2 (a1 := aBox g 136 _ _) (a2 := aBox gP 88 _ _) S delA delA)
      refine wp_region_noPanic ?_
      refine wp_region_held_drew (S := Sep _ _ _) (by kernel_rfl) S0.drew (fun _ => ?_)
      replace S := S.drew
      clear S0
      refine tk 0 ?_
      (try simp only [Act.put, List.setIfInBounds_toArray, List.set_cons_zero, List.set_cons_succ])
      refine tk 1 ?_
      (try simp only [Act.put, List.setIfInBounds_toArray, List.set_cons_zero, List.set_cons_succ])
      refine tk 2 ?_
      (try simp only [Act.put, List.setIfInBounds_toArray, List.set_cons_zero, List.set_cons_succ])
      refine tk 3 ?_
      (try simp only [Act.put, List.setIfInBounds_toArray, List.set_cons_zero, List.set_cons_succ])
      refine tk 4 ?_
      (try simp only [Act.put, List.setIfInBounds_toArray, List.set_cons_zero, List.set_cons_succ])
      refine tk 5 ?_
      (try simp only [Act.put, List.setIfInBounds_toArray, List.set_cons_zero, List.set_cons_succ])
      refine tk 6 ?_
      (try simp only [Act.put, List.setIfInBounds_toArray, List.set_cons_zero, List.set_cons_succ])
      refine tk 7 ?_
      (try simp only [Act.put, List.setIfInBounds_toArray, List.set_cons_zero, List.set_cons_succ])
      refine tk 8 ?_
      (try simp only [Act.put, List.setIfInBounds_toArray, List.set_cons_zero, List.set_cons_succ])
      refine rdys [9, 13] ?_
      refine rdc 9 (fun K hK => ?_) ?_
      · go_simp; (skip; go_at_call 145; (with_reducible refine (BankBack_yf _ c.bank [.slice A1 c.bank.own.length m1, .slice A2 c.bank.notes.length m2, .int .i64 c.bank.locked] (tBk_mk (S.row (d := tInt) (xs := c.bank.own) (F := Y1) (e := 3) memA).row (S.row (d := tInt) (xs := c.bank.notes) (F := Y2) (e := 3) memA).row I9) HB.out 1 ds sm (by decide) zd.out zs.out HM.out).mono ?_); rintro e w9 ⟨cs9, F9, rfl, h9, n9, b9, f9⟩; replace S := S.new (aOwn tBk _ cs9 F9) h9 n9 b9 f9; clear h9 n9 b9 f9; obtain ⟨x1, x2, X1, X2, rfl, rfl, I8, S9⟩ := S.openBk; replace S := S9; clear S9)
        (first | refine hK.out _ _ (S.sub subA) (fun _ => ?_) | (go_wp2_with fail; refine hK.out _ _ (S.sub subA) (fun _ => ?_)))
        clear hK K
        (try simp only [Act.put, List.setIfInBounds_toArray, List.set_cons_zero, List.set_cons_succ])
        refine tk 10 ?_
        (try simp only [Act.put, List.setIfInBounds_toArray, List.set_cons_zero, List.set_cons_succ])
        refine tk 11 ?_
        (try simp only [Act.put, List.setIfInBounds_toArray, List.set_cons_zero, List.set_cons_succ])
        refine tk 12 ?_
        (try simp only [Act.put, List.setIfInBounds_toArray, List.set_cons_zero, List.set_cons_succ])
        refine rdy1 13 (fun K hK => ?_)
        refine rgAl S ?_; clear S; intro g9 w9 z9 S
        (first | refine hK.out _ _ (S.sub subA) (fun _ => ?_) | (go_wp2_with fail; refine hK.out _ _ (S.sub subA) (fun _ => ?_)))
        clear hK K
        (try simp only [Act.put, List.setIfInBounds_toArray, List.set_cons_zero, List.set_cons_succ])
        refine rdy1 14 (fun K hK => ?_)
        (first | refine rgS1 S ?_ | refine rgSt S ?_ | refine rgSp S ?_); clear S; intro w9 S
        (first | refine hK.out _ _ (S.sub subA) (fun _ => ?_) | (go_wp2_with fail; refine hK.out _ _ (S.sub subA) (fun _ => ?_)))
        clear hK K
        (try simp only [Act.put, List.setIfInBounds_toArray, List.set_cons_zero, List.set_cons_succ])
        refine tk 15 ?_
        (try simp only [Act.put, List.setIfInBounds_toArray, List.set_cons_zero, List.set_cons_succ])
        refine wpAnyH_done (by kernel_rfl) ?_ _
        refine NoPanic.normal ?_
        go_wp2_with (first | ((with_reducible refine gate_box rfl ?_); refine aBx S ?_; clear S; intro g9 w9 z9 S) | ((with_reducible refine gate_alloc rfl ?_); refine aAl S ?_; clear S; intro g9 w9 z9 S) | ((with_reducible refine gate_load rfl ?_); first | refine aLd S ?_ | refine aPt S ?_ | refine aL1 S ?_) | ((with_reducible refine gate_st rfl ?_); (first | refine aS1 S ?_ | refine aSt S ?_ | refine aSp S ?_); clear S; intro w9 S))
        have S := S.allLnk ⟨c.id, c.bank, ⟨c.st.way, c.st.vsn, c.st.want, c.st.sent, c.st.live, c.st.back, c.st.got.set m 2⟩, c.past, c.knows⟩ I9 J9 h15
        go_ret
        rw [EC.out]
        exact ⟨rfl, _, S.sub subA⟩
      refine rdc 13 (fun K hK => ?_) AllReadyH.nil
      refine rgAl S ?_; clear S; intro g9 w9 z9 S
      (first | refine hK.out _ _ (S.sub subA) (fun _ => ?_) | (go_wp2_with fail; refine hK.out _ _ (S.sub subA) (fun _ => ?_)))
      clear hK K
      (try simp only [Act.put, List.setIfInBounds_toArray, List.set_cons_zero, List.set_cons_succ])
      refine rdy1 9 (fun K hK => ?_)
      go_simp; (skip; go_at_call 145; (with_reducible refine (BankBack_yf _ c.bank [.slice A1 c.bank.own.length m1, .slice A2 c.bank.notes.length m2, .int .i64 c.bank.locked] (tBk_mk (S.row (d := tInt) (xs := c.bank.own) (F := Y1) (e := 3) memA).row (S.row (d := tInt) (xs := c.bank.notes) (F := Y2) (e := 3) memA).row I9) HB.out 1 ds sm (by decide) zd.out zs.out HM.out).mono ?_); rintro e w9 ⟨cs9, F9, rfl, h9, n9, b9, f9⟩; replace S := S.new (aOwn tBk _ cs9 F9) h9 n9 b9 f9; clear h9 n9 b9 f9; obtain ⟨x1, x2, X1, X2, rfl, rfl, I8, S9⟩ := S.openBk; replace S := S9; clear S9)
      (first | refine hK.out _ _ (S.sub subA) (fun _ => ?_) | (go_wp2_with fail; refine hK.out _ _ (S.sub subA) (fun _ => ?_)))
      clear hK K
      (try simp only [Act.put, List.setIfInBounds_toArray, List.set_cons_zero, List.set_cons_succ])
      refine tk 10 ?_
      (try simp only [Act.put, List.setIfInBounds_toArray, List.set_cons_zero, List.set_cons_succ])
      refine tk 11 ?_
      (try simp only [Act.put, List.setIfInBounds_toArray, List.set_cons_zero, List.set_cons_succ])
      refine tk 12 ?_
      (try simp only [Act.put, List.setIfInBounds_toArray, List.set_cons_zero, List.set_cons_succ])
      refine rdy1 14 (fun K hK => ?_)
      (first | refine rgS1 S ?_ | refine rgSt S ?_ | refine rgSp S ?_); clear S; intro w9 S
      (first | refine hK.out _ _ (S.sub subA) (fun _ => ?_) | (go_wp2_with fail; refine hK.out _ _ (S.sub subA) (fun _ => ?_)))
      clear hK K
      (try simp only [Act.put, List.setIfInBounds_toArray, List.set_cons_zero, List.set_cons_succ])
      refine tk 15 ?_
      (try simp only [Act.put, List.setIfInBounds_toArray, List.set_cons_zero, List.set_cons_succ])
      refine wpAnyH_done (by kernel_rfl) ?_ _
      refine NoPanic.normal ?_
      go_wp2_with (first | ((with_reducible refine gate_box rfl ?_); refine aBx S ?_; clear S; intro g9 w9 z9 S) | ((with_reducible refine gate_alloc rfl ?_); refine aAl S ?_; clear S; intro g9 w9 z9 S) | ((with_reducible refine gate_load rfl ?_); first | refine aLd S ?_ | refine aPt S ?_ | refine aL1 S ?_) | ((with_reducible refine gate_st rfl ?_); (first | refine aS1 S ?_ | refine aSt S ?_ | refine aSp S ?_); clear S; intro w9 S))
      have S := S.allLnk ⟨c.id, c.bank, ⟨c.st.way, c.st.vsn, c.st.want, c.st.sent, c.st.live, c.st.back, c.st.got.set m 2⟩, c.past, c.knows⟩ I9 J9 h15
      go_ret
      rw [EC.out]
      exact ⟨rfl, _, S.sub subA⟩
    | true =>
      obtain ⟨x, hx⟩ : ∃ x, backBk c.bank 1 ds sm = x := ⟨_, rfl⟩
      have EC := Lib.hid (show getC c s ⟨(m : Int) + 1, 2, fr, ds, sm, tl, vr⟩ = ⟨c.id, x, ⟨c.st.way, c.st.vsn, c.st.want, c.st.sent, c.st.live, c.st.back, c.st.got.set m 1⟩, c.past, c.knows⟩ by rw [G0.out]; unfold payBk payN; rw [P0, hm, ← hx]; rfl)
      have HM := Lib.hid hm
      have HX := Lib.hid hx
      clear P0 hm e0 G0 hx
      go_enter Try.func119, Try.ntmps119
      go_wp2_with (first
        | ((with_reducible refine gate_dst (N := 5) rfl ?_); refine aBx S ?_; clear S; intro gP w9 z9 S)
        | (go_at_call 144; go_loud ((with_reducible refine (mayGet_c w0 _ _ g c F (S.pull (a := aLnk g c F) delA) HC.out s v1 v2 v3 v4 H2.out HS.out h ⟨(m : Int) + 1, 2, fr, ds, sm, tl, vr⟩ HO.out).mono ?_); rintro e w9 ⟨rfl, F9, T9⟩; rw [E.out]; obtain ⟨A1, m1, A2, m2, B1, n1, B2, n2, B3, n3, B4, n4, q, A5, m5, Y1, Y2, Z1, Z2, Z3, Z4, M1, K1, I9, J9, h15, S9⟩ := T9.openLnk; obtain ⟨g7, r7, e7⟩ := (S9.row (d := tInt) (xs := c.st.got) (F := Z4) (e := 3) memA).shape (Nat.lt_of_le_of_lt (Nat.zero_le _) HL.out); simp only [Value.slice.injEq, true_and] at e7; obtain ⟨rfl, rfl⟩ := e7; replace S := S9; clear S9 T9))
        | ((with_reducible refine gate_box rfl ?_); refine aBx S ?_; clear S; intro g9 w9 z9 S) | ((with_reducible refine gate_alloc rfl ?_); refine aAl S ?_; clear S; intro g9 w9 z9 S) | ((with_reducible refine gate_load rfl ?_); first | refine aLd S ?_ | refine aPt S ?_ | refine aL1 S ?_) | ((with_reducible refine gate_st rfl ?_); (first | refine aS1 S ?_ | refine aSt S ?_ | refine aSp S ?_); clear S; intro w9 S))
      have S0 := (Sep.only2 (a1 := aBox g 136 _ _) (a2 := aBox gP 88 _ _) S delA delA)
      refine wp_region_noPanic ?_
      refine wp_region_held_drew (S := Sep _ _ _) (by kernel_rfl) S0.drew (fun _ => ?_)
      replace S := S.drew
      clear S0
      refine tk 0 ?_
      (try simp only [Act.put, List.setIfInBounds_toArray, List.set_cons_zero, List.set_cons_succ])
      refine tk 1 ?_
      (try simp only [Act.put, List.setIfInBounds_toArray, List.set_cons_zero, List.set_cons_succ])
      refine tk 2 ?_
      (try simp only [Act.put, List.setIfInBounds_toArray, List.set_cons_zero, List.set_cons_succ])
      refine tk 3 ?_
      (try simp only [Act.put, List.setIfInBounds_toArray, List.set_cons_zero, List.set_cons_succ])
      refine tk 4 ?_
      (try simp only [Act.put, List.setIfInBounds_toArray, List.set_cons_zero, List.set_cons_succ])
      refine tk 5 ?_
      (try simp only [Act.put, List.setIfInBounds_toArray, List.set_cons_zero, List.set_cons_succ])
      refine tk 6 ?_
      (try simp only [Act.put, List.setIfInBounds_toArray, List.set_cons_zero, List.set_cons_succ])
      refine tk 7 ?_
      (try simp only [Act.put, List.setIfInBounds_toArray, List.set_cons_zero, List.set_cons_succ])
      refine tk 8 ?_
      (try simp only [Act.put, List.setIfInBounds_toArray, List.set_cons_zero, List.set_cons_succ])
      refine rdy1 9 (fun K hK => ?_)
      refine rgElP (d := tInt) (xs := c.st.got) (x := 2) (k := m) S delA (el1_int 2) HL.out ?_; clear S; intro G9 w9 S
      (first | refine hK.out _ _ (S.sub subA) (fun _ => ?_) | (go_wp2_with fail; refine hK.out _ _ (S.sub subA) (fun _ => ?_)))
      clear hK K
      (try simp only [Act.put, List.setIfInBounds_toArray, List.set_cons_zero, List.set_cons_succ])
      refine wpAnyH_done (by kernel_rfl) ?_ _
      refine NoPanic.normal ?_
      go_wp2_with (first | ((with_reducible refine gate_box rfl ?_); refine aBx S ?_; clear S; intro g9 w9 z9 S) | ((with_reducible refine gate_alloc rfl ?_); refine aAl S ?_; clear S; intro g9 w9 z9 S) | ((with_reducible refine gate_load rfl ?_); first | refine aLd S ?_ | refine aPt S ?_ | refine aL1 S ?_) | ((with_reducible refine gate_st rfl ?_); (first | refine aS1 S ?_ | refine aSt S ?_ | refine aSp S ?_); clear S; intro w9 S))
      have S0 := (Sep.only2 (a1 := aBox g 136 _ _) (a2 := aBox gP 88 _ _) S delA delA)
      refine wp_region_noPanic ?_
      refine wp_region_held_drew (S := Sep _ _ _) (by kernel_rfl) S0.drew (fun _ => ?_)
      replace S := S.drew
      clear S0
      refine tk 0 ?_
      (try simp only [Act.put, List.setIfInBounds_toArray, List.set_cons_zero, List.set_cons_succ])
      refine tk 1 ?_
      (try simp only [Act.put, List.setIfInBounds_toArray, List.set_cons_zero, List.set_cons_succ])
      refine tk 2 ?_
      (try simp only [Act.put, List.setIfInBounds_toArray, List.set_cons_zero, List.set_cons_succ])
      refine tk 3 ?_
      (try simp only [Act.put, List.setIfInBounds_toArray, List.set_cons_zero, List.set_cons_succ])
      refine tk 4 ?_
      (try simp only [Act.put, List.setIfInBounds_toArray, List.set_cons_zero, List.set_cons_succ])
      refine tk 5 ?_
      (try simp only [Act.put, List.setIfInBounds_toArray, List.set_cons_zero, List.set_cons_succ])
      refine tk 6 ?_
      (try simp only [Act.put, List.setIfInBounds_toArray, List.set_cons_zero, List.set_cons_succ])
      refine tk 7 ?_
      (try simp only [Act.put, List.setIfInBounds_toArray, List.set_cons_zero, List.set_cons_succ])
      refine tk 8 ?_
      (try simp only [Act.put, List.setIfInBounds_toArray, List.set_cons_zero, List.set_cons_succ])
      refine rdys [9, 13] ?_
      refine rdc 9 (fun K hK => ?_) ?_
      · go_simp; (skip; go_at_call 145; (with_reducible refine (BankBack_yt _ c.bank [.slice A1 c.bank.own.length m1, .slice A2 c.bank.notes.length m2, .int .i64 c.bank.locked] (tBk_mk (S.row (d := tInt) (xs := c.bank.own) (F := Y1) (e := 3) memA).row (S.row (d := tInt) (xs := c.bank.notes) (F := Y2) (e := 3) memA).row I9) HB.out 1 ds sm (by decide) zd.out zs.out HM.out).mono ?_); rintro e w9 ⟨cs9, F9, rfl, h9, n9, b9, f9⟩; replace S := S.new (aOwn tBk _ cs9 F9) h9 n9 b9 f9; clear h9 n9 b9 f9; rw [HX.out] at S; obtain ⟨x1, x2, X1, X2, rfl, rfl, I8, S9⟩ := S.openBk; replace S := S9; clear S9)
        (first | refine hK.out _ _ (S.sub subA) (fun _ => ?_) | (go_wp2_with fail; refine hK.out _ _ (S.sub subA) (fun _ => ?_)))
        clear hK K
        (try simp only [Act.put, List.setIfInBounds_toArray, List.set_cons_zero, List.set_cons_succ])
        refine tk 10 ?_
        (try simp only [Act.put, List.setIfInBounds_toArray, List.set_cons_zero, List.set_cons_succ])
        refine tk 11 ?_
        (try simp only [Act.put, List.setIfInBounds_toArray, List.set_cons_zero, List.set_cons_succ])
        refine tk 12 ?_
        (try simp only [Act.put, List.setIfInBounds_toArray, List.set_cons_zero, List.set_cons_succ])
        refine rdy1 13 (fun K hK => ?_)
        refine rgAl S ?_; clear S; intro g9 w9 z9 S
        (first | refine hK.out _ _ (S.sub subA) (fun _ => ?_) | (go_wp2_with fail; refine hK.out _ _ (S.sub subA) (fun _ => ?_)))
        clear hK K
        (try simp only [Act.put, List.setIfInBounds_toArray, List.set_cons_zero, List.set_cons_succ])
        refine rdy1 14 (fun K hK => ?_)
        (first | refine rgS1 S ?_ | refine rgSt S ?_ | refine rgSp S ?_); clear S; intro w9 S
        (first | refine hK.out _ _ (S.sub subA) (fun _ => ?_) | (go_wp2_with fail; refine hK.out _ _ (S.sub subA) (fun _ => ?_)))
        clear hK K
        (try simp only [Act.put, List.setIfInBounds_toArray, List.set_cons_zero, List.set_cons_succ])
        refine tk 15 ?_
        (try simp only [Act.put, List.setIfInBounds_toArray, List.set_cons_zero, List.set_cons_succ])
        refine wpAnyH_done (by kernel_rfl) ?_ _
        refine NoPanic.normal ?_
        go_wp2_with (first | ((with_reducible refine gate_box rfl ?_); refine aBx S ?_; clear S; intro g9 w9 z9 S) | ((with_reducible refine gate_alloc rfl ?_); refine aAl S ?_; clear S; intro g9 w9 z9 S) | ((with_reducible refine gate_load rfl ?_); first | refine aLd S ?_ | refine aPt S ?_ | refine aL1 S ?_) | ((with_reducible refine gate_st rfl ?_); (first | refine aS1 S ?_ | refine aSt S ?_ | refine aSp S ?_); clear S; intro w9 S))
        have S0 := (Sep.only2 (a1 := aBox g 136 _ _) (a2 := aBox gP 88 _ _) S delA delA)
        refine wp_region_noPanic ?_
        refine wp_region_held_drew (S := Sep _ _ _) (by kernel_rfl) S0.drew (fun _ => ?_)
        replace S := S.drew
        clear S0
        refine tk 0 ?_
        (try simp only [Act.put, List.setIfInBounds_toArray, List.set_cons_zero, List.set_cons_succ])
        refine tk 1 ?_
        (try simp only [Act.put, List.setIfInBounds_toArray, List.set_cons_zero, List.set_cons_succ])
        refine tk 2 ?_
        (try simp only [Act.put, List.setIfInBounds_toArray, List.set_cons_zero, List.set_cons_succ])
        refine tk 3 ?_
        (try simp only [Act.put, List.setIfInBounds_toArray, List.set_cons_zero, List.set_cons_succ])
        refine tk 4 ?_
        (try simp only [Act.put, List.setIfInBounds_toArray, List.set_cons_zero, List.set_cons_succ])
        refine tk 5 ?_
        (try simp only [Act.put, List.setIfInBounds_toArray, List.set_cons_zero, List.set_cons_succ])
        refine tk 6 ?_
        (try simp only [Act.put, List.setIfInBounds_toArray, List.set_cons_zero, List.set_cons_succ])
        refine tk 7 ?_
        (try simp only [Act.put, List.setIfInBounds_toArray, List.set_cons_zero, List.set_cons_succ])
        refine tk 8 ?_
        (try simp only [Act.put, List.setIfInBounds_toArray, List.set_cons_zero, List.set_cons_succ])
        refine rdy1 9 (fun K hK => ?_)
        refine rgElP (d := tInt) (xs := c.st.got.set m 2) (x := 1) (k := m) S delA (el1_int 1) LS.out ?_; clear S; intro G9 w9 S; rw [SS.out] at S
        (first | refine hK.out _ _ (S.sub subA) (fun _ => ?_) | (go_wp2_with fail; refine hK.out _ _ (S.sub subA) (fun _ => ?_)))
        clear hK K
        (try simp only [Act.put, List.setIfInBounds_toArray, List.set_cons_zero, List.set_cons_succ])
        refine wpAnyH_done (by kernel_rfl) ?_ _
        refine NoPanic.normal ?_
        go_wp2_with (first | ((with_reducible refine gate_box rfl ?_); refine aBx S ?_; clear S; intro g9 w9 z9 S) | ((with_reducible refine gate_alloc rfl ?_); refine aAl S ?_; clear S; intro g9 w9 z9 S) | ((with_reducible refine gate_load rfl ?_); first | refine aLd S ?_ | refine aPt S ?_ | refine aL1 S ?_) | ((with_reducible refine gate_st rfl ?_); (first | refine aS1 S ?_ | refine aSt S ?_ | refine aSp S ?_); clear S; intro w9 S))
        have S := S.allLnk ⟨c.id, x, ⟨c.st.way, c.st.vsn, c.st.want, c.st.sent, c.st.live, c.st.back, c.st.got.set m 1⟩, c.past, c.knows⟩ I8 J9 h15
        go_ret
        rw [EC.out]
        exact ⟨rfl, _, S.sub subA⟩
      refine rdc 13 (fun K hK => ?_) AllReadyH.nil
      refine rgAl S ?_; clear S; intro g9 w9 z9 S
      (first | refine hK.out _ _ (S.sub subA) (fun _ => ?_) | (go_wp2_with fail; refine hK.out _ _ (S.sub subA) (fun _ => ?_)))
      clear hK K
      (try simp only [Act.put, List.setIfInBounds_toArray, List.set_cons_zero, List.set_cons_succ])
      refine rdy1 9 (fun K hK => ?_)
      go_simp; (skip; go_at_call 145; (with_reducible refine (BankBack_yt _ c.bank [.slice A1 c.bank.own.length m1, .slice A2 c.bank.notes.length m2, .int .i64 c.bank.locked] (tBk_mk (S.row (d := tInt) (xs := c.bank.own) (F := Y1) (e := 3) memA).row (S.row (d := tInt) (xs := c.bank.notes) (F := Y2) (e := 3) memA).row I9) HB.out 1 ds sm (by decide) zd.out zs.out HM.out).mono ?_); rintro e w9 ⟨cs9, F9, rfl, h9, n9, b9, f9⟩; replace S := S.new (aOwn tBk _ cs9 F9) h9 n9 b9 f9; clear h9 n9 b9 f9; rw [HX.out] at S; obtain ⟨x1, x2, X1, X2, rfl, rfl, I8, S9⟩ := S.openBk; replace S := S9; clear S9)
      (first | refine hK.out _ _ (S.sub subA) (fun _ => ?_) | (go_wp2_with fail; refine hK.out _ _ (S.sub subA) (fun _ => ?_)))
      clear hK K
      (try simp only [Act.put, List.setIfInBounds_toArray, List.set_cons_zero, List.set_cons_succ])
      refine tk 10 ?_
      (try simp only [Act.put, List.setIfInBounds_toArray, List.set_cons_zero, List.set_cons_succ])
      refine tk 11 ?_
      (try simp only [Act.put, List.setIfInBounds_toArray, List.set_cons_zero, List.set_cons_succ])
      refine tk 12 ?_
      (try simp only [Act.put, List.setIfInBounds_toArray, List.set_cons_zero, List.set_cons_succ])
      refine rdy1 14 (fun K hK => ?_)
      (first | refine rgS1 S ?_ | refine rgSt S ?_ | refine rgSp S ?_); clear S; intro w9 S
      (first | refine hK.out _ _ (S.sub subA) (fun _ => ?_) | (go_wp2_with fail; refine hK.out _ _ (S.sub subA) (fun _ => ?_)))
      clear hK K
      (try simp only [Act.put, List.setIfInBounds_toArray, List.set_cons_zero, List.set_cons_succ])
      refine tk 15 ?_
      (try simp only [Act.put, List.setIfInBounds_toArray, List.set_cons_zero, List.set_cons_succ])
      refine wpAnyH_done (by kernel_rfl) ?_ _
      refine NoPanic.normal ?_
      go_wp2_with (first | ((with_reducible refine gate_box rfl ?_); refine aBx S ?_; clear S; intro g9 w9 z9 S) | ((with_reducible refine gate_alloc rfl ?_); refine aAl S ?_; clear S; intro g9 w9 z9 S) | ((with_reducible refine gate_load rfl ?_); first | refine aLd S ?_ | refine aPt S ?_ | refine aL1 S ?_) | ((with_reducible refine gate_st rfl ?_); (first | refine aS1 S ?_ | refine aSt S ?_ | refine aSp S ?_); clear S; intro w9 S))
      have S0 := (Sep.only2 (a1 := aBox g 136 _ _) (a2 := aBox gP 88 _ _) S delA delA)
      refine wp_region_noPanic ?_
      refine wp_region_held_drew (S := Sep _ _ _) (by kernel_rfl) S0.drew (fun _ => ?_)
      replace S := S.drew
      clear S0
      refine tk 0 ?_
      (try simp only [Act.put, List.setIfInBounds_toArray, List.set_cons_zero, List.set_cons_succ])
      refine tk 1 ?_
      (try simp only [Act.put, List.setIfInBounds_toArray, List.set_cons_zero, List.set_cons_succ])
      refine tk 2 ?_
      (try simp only [Act.put, List.setIfInBounds_toArray, List.set_cons_zero, List.set_cons_succ])
      refine tk 3 ?_
      (try simp only [Act.put, List.setIfInBounds_toArray, List.set_cons_zero, List.set_cons_succ])
      refine tk 4 ?_
      (try simp only [Act.put, List.setIfInBounds_toArray, List.set_cons_zero, List.set_cons_succ])
      refine tk 5 ?_
      (try simp only [Act.put, List.setIfInBounds_toArray, List.set_cons_zero, List.set_cons_succ])
      refine tk 6 ?_
      (try simp only [Act.put, List.setIfInBounds_toArray, List.set_cons_zero, List.set_cons_succ])
      refine tk 7 ?_
      (try simp only [Act.put, List.setIfInBounds_toArray, List.set_cons_zero, List.set_cons_succ])
      refine tk 8 ?_
      (try simp only [Act.put, List.setIfInBounds_toArray, List.set_cons_zero, List.set_cons_succ])
      refine rdy1 9 (fun K hK => ?_)
      refine rgElP (d := tInt) (xs := c.st.got.set m 2) (x := 1) (k := m) S delA (el1_int 1) LS.out ?_; clear S; intro G9 w9 S; rw [SS.out] at S
      (first | refine hK.out _ _ (S.sub subA) (fun _ => ?_) | (go_wp2_with fail; refine hK.out _ _ (S.sub subA) (fun _ => ?_)))
      clear hK K
      (try simp only [Act.put, List.setIfInBounds_toArray, List.set_cons_zero, List.set_cons_succ])
      refine wpAnyH_done (by kernel_rfl) ?_ _
      refine NoPanic.normal ?_
      go_wp2_with (first | ((with_reducible refine gate_box rfl ?_); refine aBx S ?_; clear S; intro g9 w9 z9 S) | ((with_reducible refine gate_alloc rfl ?_); refine aAl S ?_; clear S; intro g9 w9 z9 S) | ((with_reducible refine gate_load rfl ?_); first | refine aLd S ?_ | refine aPt S ?_ | refine aL1 S ?_) | ((with_reducible refine gate_st rfl ?_); (first | refine aS1 S ?_ | refine aSt S ?_ | refine aSp S ?_); clear S; intro w9 S))
      have S := S.allLnk ⟨c.id, x, ⟨c.st.way, c.st.vsn, c.st.want, c.st.sent, c.st.live, c.st.back, c.st.got.set m 1⟩, c.past, c.knows⟩ I8 J9 h15
      go_ret
      rw [EC.out]
      exact ⟨rfl, _, S.sub subA⟩
end Go.Proofs.Ytapdcgjccckjeaa
namespace Go.Proofs.Ytapdcgjccckjeaa
set_option maxRecDepth 100000
set_option linter.unusedVariables false
set_option linter.unusedSimpArgs false
open Go.RowKit
theorem PacketOk_r (w : World) (p : Pk) {r : Bool} (h : okPk p = r) : Calls Try.prog 118 #[.agg #[.int .i64 p.seq, .int .i64 p.kind, .int .i64 p.frm, .int .i64 p.dst, .int .i64 p.sum, .int .i64 p.til, .int .i64 p.ver]] w (Ret (.bool r) w) := h ▸ PacketOk_c w p
theorem sPacketOk_r (w : World) (p : Pk) {r : Bool} (h : okPk p = r) : Calls Try.prog 116 #[.agg #[.int .i64 p.seq, .int .i64 p.kind, .int .i64 p.frm, .int .i64 p.dst, .int .i64 p.sum, .int .i64 p.til, .int .i64 p.ver]] w (Ret (.bool r) w) := h ▸ sPacketOk_c w p
theorem cutT {T G : Prop} (h : T → G) (t : T) : G := h t
def rgetV (c : Ch) (s : St) (p : Pk) : Ch × Bool := if okCh c = true ∧ okSt s = true ∧ okPk p = true then (getC c s p, getOk c s p) else (nilCh, false)
theorem rgetV_no {c : Ch} {s : St} {p : Pk} (k : ¬ (okCh c = true ∧ okSt s = true ∧ okPk p = true)) : rgetV c s p = (nilCh, false) := if_neg k
theorem getC_past (c : Ch) (s : St) (p : Pk) : (getC c s p).past = c.past := by
  unfold getC
  split <;> rfl
set_option maxHeartbeats 6400000 in
theorem RelayGet_c (w : World) (c : Ch) (s : St) (c1 c2 : List Value) (h1 : tCh.rd w c c1) (h2 : tSt.rd w s c2) (p : Pk) : Calls Try.prog 58 #[.agg c1.toArray, .agg c2.toArray, .agg #[.int .i64 p.seq, .int .i64 p.kind, .int .i64 p.frm, .int .i64 p.dst, .int .i64 p.sum, .int .i64 p.til, .int .i64 p.ver]] w (RetOwn2 tCh (rgetV c s p) w) := by
  have S := Sep.start w
  have FIN := Lib.hid (fun (W : World) (f : Fr w W) => tCh.fr f h1)
  have FI2 := Lib.hid (fun (W : World) (f : Fr w W) => tSt.fr f h2)
  have LN := Lib.hid (show c1.length = 13 from tCh.len h1)
  have n1 := tCh_rd_one' h1
  have n2 := tSt_rd_one h2
  obtain ⟨v1, v2, v3, v4, rfl, _⟩ := id h2
  have H2 := Lib.hid h2
  cases o1 : okCh c with
  | false =>
    have R := Lib.hid (rgetV_no (c := c) (s := s) (p := p) (by rw [o1]; simp))
    have O1 := Lib.hid o1
    clear o1 h1 h2
    go_enter Try.func58, Try.ntmps58
    go_wp2_with (first | (go_at_call 19; (with_reducible refine (ChainOk_r _ c _ (FIN.out _ S.frame) O1.out).mono ?_); rintro e w9 ⟨rfl, f9⟩; replace S := S.fr f9; clear f9) | ((with_reducible refine gate_box rfl ?_); refine aBx S ?_; clear S; intro g9 w9 z9 S) | ((with_reducible refine gate_alloc rfl ?_); refine aAl S ?_; clear S; intro g9 w9 z9 S) | ((with_reducible refine gate_load rfl ?_); first | refine aLd S ?_ | refine aPt S ?_ | refine aL1 S ?_) | ((with_reducible refine gate_st rfl ?_); (first | refine aS1 S ?_ | refine aSt S ?_ | refine aSp S ?_); clear S; intro w9 S))
    have S := S.nilCh
    (refine Sep.ret1_1 S rfl rfl memA Try.underlying33 rfl ts33 rfl rfl ?_)
    rw [R.out]
    exact S.retOwn2 List.mem_cons_self
  | true =>
  have O1 := Lib.hid o1
  cases o2 : okSt s with
  | false =>
    have R := Lib.hid (rgetV_no (c := c) (s := s) (p := p) (by rw [o2]; simp))
    have O2 := Lib.hid o2
    clear o1 o2 h1 h2
    go_enter Try.func58, Try.ntmps58
    go_wp2_with (first | (go_at_call 19; (with_reducible refine (ChainOk_r _ c _ (FIN.out _ S.frame) O1.out).mono ?_); rintro e w9 ⟨rfl, f9⟩; replace S := S.fr f9; clear f9) | (go_at_call 68; (with_reducible refine (StateOk_r _ s _ (FI2.out _ S.frame) O2.out).mono ?_); rintro e w9 ⟨rfl, f9⟩; replace S := S.fr f9; clear f9) | ((with_reducible refine gate_box rfl ?_); refine aBx S ?_; clear S; intro g9 w9 z9 S) | ((with_reducible refine gate_alloc rfl ?_); refine aAl S ?_; clear S; intro g9 w9 z9 S) | ((with_reducible refine gate_load rfl ?_); first | refine aLd S ?_ | refine aPt S ?_ | refine aL1 S ?_) | ((with_reducible refine gate_st rfl ?_); (first | refine aS1 S ?_ | refine aSt S ?_ | refine aSp S ?_); clear S; intro w9 S))
    have S := S.nilCh
    (refine Sep.ret1_1 S rfl rfl memA Try.underlying33 rfl ts33 rfl rfl ?_)
    rw [R.out]
    exact S.retOwn2 List.mem_cons_self
  | true =>
  have O2 := Lib.hid o2
  cases o3 : okPk p with
  | false =>
    have R := Lib.hid (rgetV_no (c := c) (s := s) (p := p) (by rw [o3]; simp))
    have O3 := Lib.hid o3
    clear o1 o2 o3 h1 h2
    go_enter Try.func58, Try.ntmps58
    go_wp2_with (first | (go_at_call 19; (with_reducible refine (ChainOk_r _ c _ (FIN.out _ S.frame) O1.out).mono ?_); rintro e w9 ⟨rfl, f9⟩; replace S := S.fr f9; clear f9) | (go_at_call 68; (with_reducible refine (StateOk_r _ s _ (FI2.out _ S.frame) O2.out).mono ?_); rintro e w9 ⟨rfl, f9⟩; replace S := S.fr f9; clear f9) | (go_at_call 118; (with_reducible refine (PacketOk_r _ p O3.out).mono ?_); rintro e w9 ⟨rfl, f9⟩; replace S := S.fr f9; clear f9) | ((with_reducible refine gate_box rfl ?_); refine aBx S ?_; clear S; intro g9 w9 z9 S) | ((with_reducible refine gate_alloc rfl ?_); refine aAl S ?_; clear S; intro g9 w9 z9 S) | ((with_reducible refine gate_load rfl ?_); first | refine aLd S ?_ | refine aPt S ?_ | refine aL1 S ?_) | ((with_reducible refine gate_st rfl ?_); (first | refine aS1 S ?_ | refine aSt S ?_ | refine aSp S ?_); clear S; intro w9 S))
    have S := S.nilCh
    (refine Sep.ret1_1 S rfl rfl memA Try.underlying33 rfl ts33 rfl rfl ?_)
    rw [R.out]
    exact S.retOwn2 List.mem_cons_self
  | true =>
  have O3 := Lib.hid o3
  have R := Lib.hid (show rgetV c s p = (getC c s p, getOk c s p) from if_pos ⟨o1, o2, o3⟩)
  have BL := Lib.hid (show (getC c s p).past.length ≤ 1000000 by rw [getC_past]; have := (okCh_parts o1).2.2.2.1; omega)
  clear o1 o2 o3 h1 h2
  go_enter Try.func58, Try.ntmps58
  go_wp2_with (first
    | (go_at_call 19; (with_reducible refine (ChainOk_r _ c _ (FIN.out _ S.frame) O1.out).mono ?_); rintro e w9 ⟨rfl, f9⟩; replace S := S.fr f9; clear f9) | (go_at_call 68; (with_reducible refine (StateOk_r _ s _ (FI2.out _ S.frame) O2.out).mono ?_); rintro e w9 ⟨rfl, f9⟩; replace S := S.fr f9; clear f9) | (go_at_call 118; (with_reducible refine (PacketOk_r _ p O3.out).mono ?_); rintro e w9 ⟨rfl, f9⟩; replace S := S.fr f9; clear f9)
    | (go_at_call 104; (with_reducible refine (linkOf_c _ c _ (FIN.out _ S.frame) O1.out).mono ?_); rintro e w9 ⟨g9, F9, rfl, T9⟩; replace S := S.call01 T9; clear T9)
    | (go_at_call 119; go_loud ((with_reducible refine (get_c w _ _ g9 c F9 (S.pull (a := aLnk g9 c F9) delA) O1.out s v1 v2 v3 v4 H2.out O2.out 0 p O3.out).mono ?_); rintro e w9 ⟨rfl, F8, T9⟩; replace S := T9; clear T9))
    | (go_at_call 65; go_loud ((with_reducible refine (chain_c _ g9 (getC c s p) F8 (S.lnk memA) BL.out).mono ?_); rintro e w9 ⟨cs9, G9, rfl, T9⟩; replace S := S.callLnk1 delA T9; clear T9))
    | ((with_reducible refine gate_box rfl ?_); refine aBx S ?_; clear S; intro g9 w9 z9 S) | ((with_reducible refine gate_alloc rfl ?_); refine aAl S ?_; clear S; intro g9 w9 z9 S) | ((with_reducible refine gate_load rfl ?_); first | refine aLd S ?_ | refine aPt S ?_ | refine aL1 S ?_) | ((with_reducible refine gate_st rfl ?_); (first | refine aS1 S ?_ | refine aSt S ?_ | refine aSp S ?_); clear S; intro w9 S))
  (refine Sep.ret1_1 S rfl rfl memA Try.underlying33 rfl ts33 rfl rfl ?_)
  rw [R.out]
  exact S.retOwn2 memA
set_option maxHeartbeats 6400000 in
theorem sRelayGet_c (w : World) (c : Ch) (s : St) (c1 c2 : List Value) (h1 : tCh.rd w c c1) (h2 : tSt.rd w s c2) (p : Pk) : Calls Try.prog 56 #[.agg c1.toArray, .agg c2.toArray, .agg #[.int .i64 p.seq, .int .i64 p.kind, .int .i64 p.frm, .int .i64 p.dst, .int .i64 p.sum, .int .i64 p.til, .int .i64 p.ver]] w (RetOwn2 tCh (rgetV c s p) w) := by
  have S := Sep.start w
  have FIN := Lib.hid (fun (W : World) (f : Fr w W) => tCh.fr f h1)
  have FI2 := Lib.hid (fun (W : World) (f : Fr w W) => tSt.fr f h2)
  have LN := Lib.hid (show c1.length = 13 from tCh.len h1)
  have n1 := tCh_rd_one' h1
  have n2 := tSt_rd_one h2
  obtain ⟨v1, v2, v3, v4, rfl, _⟩ := id h2
  have H2 := Lib.hid h2
  cases o1 : okCh c with
  | false =>
    have R := Lib.hid (rgetV_no (c := c) (s := s) (p := p) (by rw [o1]; simp))
    have O1 := Lib.hid o1
    clear o1 h1 h2
    go_enter Try.func56, Try.ntmps56
    go_wp2_with (first | (go_at_call 33; (with_reducible refine (sChainOk_r _ c _ (FIN.out _ S.frame) O1.out).mono ?_); rintro e w9 ⟨rfl, f9⟩; replace S := S.fr f9; clear f9) | ((with_reducible refine gate_box rfl ?_); refine aBx S ?_; clear S; intro g9 w9 z9 S) | ((with_reducible refine gate_alloc rfl ?_); refine aAl S ?_; clear S; intro g9 w9 z9 S) | ((with_reducible refine gate_load rfl ?_); first | refine aLd S ?_ | refine aPt S ?_ | refine aL1 S ?_) | ((with_reducible refine gate_st rfl ?_); (first | refine aS1 S ?_ | refine aSt S ?_ | refine aSp S ?_); clear S; intro w9 S))
    have S := S.nilCh
    (refine Sep.ret1_1 S rfl rfl memA Try.underlying33 rfl ts33 rfl rfl ?_)
    rw [R.out]
    exact S.retOwn2 List.mem_cons_self
  | true =>
  have O1 := Lib.hid o1
  cases o2 : okSt s with
  | false =>
    have R := Lib.hid (rgetV_no (c := c) (s := s) (p := p) (by rw [o2]; simp))
    have O2 := Lib.hid o2
    clear o1 o2 h1 h2
    go_enter Try.func56, Try.ntmps56
    go_wp2_with (first | (go_at_call 33; (with_reducible refine (sChainOk_r _ c _ (FIN.out _ S.frame) O1.out).mono ?_); rintro e w9 ⟨rfl, f9⟩; replace S := S.fr f9; clear f9) | (go_at_call 88; (with_reducible refine (sStateOk_r _ s _ (FI2.out _ S.frame) O2.out).mono ?_); rintro e w9 ⟨rfl, f9⟩; replace S := S.fr f9; clear f9) | ((with_reducible refine gate_box rfl ?_); refine aBx S ?_; clear S; intro g9 w9 z9 S) | ((with_reducible refine gate_alloc rfl ?_); refine aAl S ?_; clear S; intro g9 w9 z9 S) | ((with_reducible refine gate_load rfl ?_); first | refine aLd S ?_ | refine aPt S ?_ | refine aL1 S ?_) | ((with_reducible refine gate_st rfl ?_); (first | refine aS1 S ?_ | refine aSt S ?_ | refine aSp S ?_); clear S; intro w9 S))
    have S := S.nilCh
    (refine Sep.ret1_1 S rfl rfl memA Try.underlying33 rfl ts33 rfl rfl ?_)
    rw [R.out]
    exact S.retOwn2 List.mem_cons_self
  | true =>
  have O2 := Lib.hid o2
  cases o3 : okPk p with
  | false =>
    have R := Lib.hid (rgetV_no (c := c) (s := s) (p := p) (by rw [o3]; simp))
    have O3 := Lib.hid o3
    clear o1 o2 o3 h1 h2
    go_enter Try.func56, Try.ntmps56
    go_wp2_with (first | (go_at_call 33; (with_reducible refine (sChainOk_r _ c _ (FIN.out _ S.frame) O1.out).mono ?_); rintro e w9 ⟨rfl, f9⟩; replace S := S.fr f9; clear f9) | (go_at_call 88; (with_reducible refine (sStateOk_r _ s _ (FI2.out _ S.frame) O2.out).mono ?_); rintro e w9 ⟨rfl, f9⟩; replace S := S.fr f9; clear f9) | (go_at_call 116; (with_reducible refine (sPacketOk_r _ p O3.out).mono ?_); rintro e w9 ⟨rfl, f9⟩; replace S := S.fr f9; clear f9) | ((with_reducible refine gate_box rfl ?_); refine aBx S ?_; clear S; intro g9 w9 z9 S) | ((with_reducible refine gate_alloc rfl ?_); refine aAl S ?_; clear S; intro g9 w9 z9 S) | ((with_reducible refine gate_load rfl ?_); first | refine aLd S ?_ | refine aPt S ?_ | refine aL1 S ?_) | ((with_reducible refine gate_st rfl ?_); (first | refine aS1 S ?_ | refine aSt S ?_ | refine aSp S ?_); clear S; intro w9 S))
    have S := S.nilCh
    (refine Sep.ret1_1 S rfl rfl memA Try.underlying33 rfl ts33 rfl rfl ?_)
    rw [R.out]
    exact S.retOwn2 List.mem_cons_self
  | true =>
  have O3 := Lib.hid o3
  have R := Lib.hid (show rgetV c s p = (getC c s p, getOk c s p) from if_pos ⟨o1, o2, o3⟩)
  clear o1 o2 o3 h1 h2
  go_enter Try.func56, Try.ntmps56
  go_wp2_with (first | (go_at_call 33; (with_reducible refine (sChainOk_r _ c _ (FIN.out _ S.frame) O1.out).mono ?_); rintro e w9 ⟨rfl, f9⟩; replace S := S.fr f9; clear f9) | (go_at_call 88; (with_reducible refine (sStateOk_r _ s _ (FI2.out _ S.frame) O2.out).mono ?_); rintro e w9 ⟨rfl, f9⟩; replace S := S.fr f9; clear f9) | (go_at_call 116; (with_reducible refine (sPacketOk_r _ p O3.out).mono ?_); rintro e w9 ⟨rfl, f9⟩; replace S := S.fr f9; clear f9) | ((with_reducible refine gate_box rfl ?_); refine aBx S ?_; clear S; intro g9 w9 z9 S) | ((with_reducible refine gate_alloc rfl ?_); refine aAl S ?_; clear S; intro g9 w9 z9 S) | ((with_reducible refine gate_load rfl ?_); first | refine aLd S ?_ | refine aPt S ?_ | refine aL1 S ?_) | ((with_reducible refine gate_st rfl ?_); (first | refine aS1 S ?_ | refine aSt S ?_ | refine aSp S ?_); clear S; intro w9 S))
  have S0 := S.drop
  refine wp_region_noPanic ?_
  refine wp_region_held_drew (S := Sep _ _ _) (by kernel_rfl) S0.drew (fun _ => ?_)
  replace S := S.drew
  clear S0
  refine tk 0 ?_
  (try simp only [Act.put, List.setIfInBounds_toArray, List.set_cons_zero, List.set_cons_succ])
  refine tk 2 ?_
  (try simp only [Act.put, List.setIfInBounds_toArray, List.set_cons_zero, List.set_cons_succ])
  refine tk 3 ?_
  (try simp only [Act.put, List.setIfInBounds_toArray, List.set_cons_zero, List.set_cons_succ])
  refine rdy1 1 (fun K hK => ?_)
  go_simp; (skip; go_at_call 103; (with_reducible refine (l12Copy_c _ c _ (FIN.out _ S.frame) O1.out).mono ?_); rintro e w9 ⟨cs9, F9, rfl, h9, n9, b9, f9⟩; replace S := S.new (aOwn tCh _ cs9 F9) h9 n9 b9 f9; clear h9 n9 b9 f9)
  (first | refine hK.out _ _ (S.sub subA) (fun _ => ?_) | (go_wp2_with fail; refine hK.out _ _ (S.sub subA) (fun _ => ?_)))
  clear hK K
  (try simp only [Act.put, List.setIfInBounds_toArray, List.set_cons_zero, List.set_cons_succ])
  refine rdy1 4 (fun K hK => ?_)
  go_simp; (skip; go_at_call 117; (with_reducible refine (l13Get_c w _ _ c cs9 F9 (S.pull (a := aOwn tCh c cs9 F9) delA) O1.out s _ H2.out O2.out p O3.out).mono ?_); rintro e w9 ⟨cs8, F8, rfl, T9⟩; replace S := T9; clear T9)
  (first | refine hK.out _ _ (S.sub subA) (fun _ => ?_) | (go_wp2_with fail; refine hK.out _ _ (S.sub subA) (fun _ => ?_)))
  clear hK K
  (try simp only [Act.put, List.setIfInBounds_toArray, List.set_cons_zero, List.set_cons_succ])
  refine tk 5 ?_
  (try simp only [Act.put, List.setIfInBounds_toArray, List.set_cons_zero, List.set_cons_succ])
  refine tk 6 ?_
  (try simp only [Act.put, List.setIfInBounds_toArray, List.set_cons_zero, List.set_cons_succ])
  refine rdy1 7 (fun K hK => ?_)
  (first | refine rgS1 S ?_ | refine rgSt S ?_ | refine rgSp S ?_); clear S; intro w9 S
  (first | refine hK.out _ _ (S.sub subA) (fun _ => ?_) | (go_wp2_with fail; refine hK.out _ _ (S.sub subA) (fun _ => ?_)))
  clear hK K
  (try simp only [Act.put, List.setIfInBounds_toArray, List.set_cons_zero, List.set_cons_succ])
  refine tk 8 ?_
  (try simp only [Act.put, List.setIfInBounds_toArray, List.set_cons_zero, List.set_cons_succ])
  refine wpAnyH_done (by kernel_rfl) ?_ _
  refine NoPanic.normal ?_
  go_wp2_with (first | ((with_reducible refine gate_box rfl ?_); refine aBx S ?_; clear S; intro g9 w9 z9 S) | ((with_reducible refine gate_alloc rfl ?_); refine aAl S ?_; clear S; intro g9 w9 z9 S) | ((with_reducible refine gate_load rfl ?_); first | refine aLd S ?_ | refine aPt S ?_ | refine aL1 S ?_) | ((with_reducible refine gate_st rfl ?_); (first | refine aS1 S ?_ | refine aSt S ?_ | refine aSp S ?_); clear S; intro w9 S))
  (refine Sep.ret1_1 S rfl rfl memA Try.underlying33 rfl ts33 rfl rfl ?_)
  rw [R.out]
  exact S.retOwn2 memA
theorem rgetV_small {c x : Ch} {s : St} {p : Pk} {ok : Bool} (hR : rgetV c s p = (x, ok)) : SmallCh x := by
  unfold rgetV at hR
  split at hR
  · rename_i hc
    simp only [Prod.mk.injEq] at hR
    rw [← hR.1]
    unfold getC
    split
    · refine small_like hc.1 ?_ ?_ rfl rfl
      · unfold paidC payBk
        have := backBk_len c.bank (3 - p.kind) p.dst p.sum
        simp only []
        split
        · exact this
        · exact ⟨rfl, rfl⟩
      · unfold paidC
        simp
    · exact okCh_smallCh hc.1
  · simp only [Prod.mk.injEq] at hR
    rw [← hR.1]
    exact nilCh_small
theorem RelayGet_e (w : World) (c : Ch) (s : St) (c1 c2 : List Value) (h1 : tCh.rd w c c1) (h2 : tSt.rd w s c2) (p : Pk) {x : Ch} {ok : Bool} (hR : rgetV c s p = (x, ok)) : Calls Try.prog 58 #[.agg c1.toArray, .agg c2.toArray, .agg #[.int .i64 p.seq, .int .i64 p.kind, .int .i64 p.frm, .int .i64 p.dst, .int .i64 p.sum, .int .i64 p.til, .int .i64 p.ver]] w (RetOwn2 tCh (x, ok) w) := hR ▸ RelayGet_c w c s c1 c2 h1 h2 p
theorem sRelayGet_e (w : World) (c : Ch) (s : St) (c1 c2 : List Value) (h1 : tCh.rd w c c1) (h2 : tSt.rd w s c2) (p : Pk) {x : Ch} {ok : Bool} (hR : rgetV c s p = (x, ok)) : Calls Try.prog 56 #[.agg c1.toArray, .agg c2.toArray, .agg #[.int .i64 p.seq, .int .i64 p.kind, .int .i64 p.frm, .int .i64 p.dst, .int .i64 p.sum, .int .i64 p.til, .int .i64 p.ver]] w (RetOwn2 tCh (x, ok) w) := hR ▸ sRelayGet_c w c s c1 c2 h1 h2 p
end Go.Proofs.Ytapdcgjccckjeaa
namespace Go.Proofs.Ytapdcgjccckjeaa
set_option maxRecDepth 100000
set_option linter.unusedVariables false
set_option linter.unusedSimpArgs false
open Go.RowKit Go.Deep

theorem list_of {α : Type} {p : Nat → α → Prop} : ∀ n : Nat, (∀ i, i < n → ∃ y, p i y) → ∃ xs : List α, xs.length = n ∧ ∀ i (h : i < xs.length), p i xs[i]
  | 0, _ => ⟨[], rfl, fun i h => by simp at h⟩
  | n + 1, h => by
    obtain ⟨xs, h1, h2⟩ := list_of n (fun i hi => h i (by omega))
    obtain ⟨y, hy⟩ := h n (by omega)
    refine ⟨xs ++ [y], by simp [h1], fun i hi => ?_⟩
    by_cases hlt : i < xs.length
    · rw [List.getElem_append_left hlt]
      exact h2 i hlt
    · have e : i = xs.length := by simp at hi; omega
      subst e
      rw [List.getElem_append_right (Nat.le_refl _)]
      simp only [Nat.sub_self, List.getElem_cons_zero]
      rw [h1]
      exact hy
section
variable {α H : Type} {enc : TypeId × Value → H} {P : Program} {w : World} {spare : Nat → Bool} {held : Bool} {d : Ty α} {t e fuel : Nat} {cs : List Value} {x : DataW H × List MemPlace}
/-- A kind of data, by its type: whatever can be read reads as some datum. -/
def Opens (enc : TypeId × Value → H) (P : Program) (w : World) (spare : Nat → Bool) (held : Bool) (t : Nat) (d : Ty α) : Prop :=
  ∀ fuel cs x, DataW.trod enc P w 0 spare held fuel t cs = some x → ∃ y, d.rd w y cs
def OpensRow (enc : TypeId × Value → H) (P : Program) (w : World) (spare : Nat → Bool) (held : Bool) (t : Nat) (d : Ty α) : Prop :=
  ∀ fuel cs x, DataW.trod enc P w 0 spare held fuel t cs = some x → ∃ v xs, cs = [v] ∧ d.row w v xs
theorem opens_row (ht : P.underlying t = some (.slice e)) (hC : P.cellsOf e = d.sz) (hd : Opens enc P w spare held e d) : OpensRow enc P w spare held t d := by
  intro fuel cs x h
  rcases open_slice ht h with ⟨h0, _⟩ | ⟨a, len, cap, m, n, D, Pl, hcs, hb, hl, hm, hmm, hx, hi⟩
  · exact ⟨_, [], h0, Ty.row.nil d w⟩
  · have hlm : len ≤ m := by rw [hmm]; split <;> omega
    obtain ⟨xs, h1, h2⟩ := list_of (p := fun i y => ∃ cs', d.rd w y cs' ∧ ∀ j (hj : j < cs'.length), w.cell? (a.add (i * d.sz + j)) = some cs'[j]) len (fun i hi' => by
      obtain ⟨cs', hc, ht'⟩ := hi i (by omega)
      obtain ⟨y, hy⟩ := hd _ _ _ ht'
      rw [hC] at hc
      obtain ⟨_, hcl, hat⟩ := World.cells?_some hc
      refine ⟨y, cs', hy, fun j hj => ?_⟩
      rw [← add_add, hat j (by omega), List.getElem?_eq_getElem hj])
    subst h1
    refine ⟨_, xs, hcs, some a, cap, rfl, ⟨hl, fun h => by cases h⟩, by simp only [maxLen] at hm; omega, fun k hk => ?_⟩
    obtain ⟨cs', hy, hc⟩ := h2 k hk
    exact ⟨a, cs', rfl, hy, hc⟩
theorem opens_int (ht : P.underlying t = some (.int .i64)) : Opens enc P w spare held t tInt := by
  intro fuel cs x h
  obtain ⟨n, rfl, _⟩ := DataW.trod_int ht h
  exact ⟨n, rfl⟩
theorem opens_bool (ht : P.underlying t = some .bool) : Opens enc P w spare held t tBool := by
  intro fuel cs x h
  obtain ⟨b, rfl, _⟩ := DataW.trod_bool ht h
  exact ⟨b, rfl⟩
/-- An int's own reading, with its range. -/
theorem read_int (ht : P.underlying t = some (.int .i64)) (h : DataW.trod enc P w 0 spare held fuel t cs = some x) : ∃ n, cs = [.int .i64 n] ∧ -9223372036854775808 ≤ n ∧ n ≤ 9223372036854775807 := by
  obtain ⟨n, rfl, _, hw⟩ := DataW.trod_int ht h
  refine ⟨n, rfl, ?_⟩
  simp [Lit.wf, IntKind.min, IntKind.max, IntKind.bits, IntKind.signed] at hw
  omega
end
end Go.Proofs.Ytapdcgjccckjeaa
namespace Go.Proofs.Ytapdcgjccckjeaa
set_option maxRecDepth 100000
set_option linter.unusedVariables false
set_option linter.unusedSimpArgs false
open Go.RowKit Go.Deep
theorem pcells3 : Try.prog.cellsOf 3 = 1 := by kernel_rfl
theorem pcells86 : Try.prog.cellsOf 86 = 7 := by kernel_rfl
theorem pfield_some {α : Type} {xs : List α} {n i : Nat} {r : Option α} (hl : xs.length = n) (hi : i < n) (h : r = xs[i]?) : ∃ y, r = some y := ⟨xs[i]'(by omega), by rw [h, List.getElem?_eq_getElem]⟩
section
variable {H : Type} {enc : TypeId × Value → H} {w : World} {spare : Nat → Bool} {held : Bool}
theorem opens_Pk : Opens enc Try.prog w spare held 86 tPk := by
  intro fuel cs x h
  obtain ⟨xs, n, _, _, hlen, hxl, hf⟩ := DataW.trod_struct Try.underlying86 h
  rw [pcells86] at hlen
  match cs, hlen with
  | [c0, c1, c2, c3, c4, c5, c6], _ =>
    obtain ⟨y0, h0⟩ := pfield_some hxl (by decide) (hf 0 _ rfl)
    obtain ⟨y1, h1⟩ := pfield_some hxl (by decide) (hf 1 _ rfl)
    obtain ⟨y2, h2⟩ := pfield_some hxl (by decide) (hf 2 _ rfl)
    obtain ⟨y3, h3⟩ := pfield_some hxl (by decide) (hf 3 _ rfl)
    obtain ⟨y4, h4⟩ := pfield_some hxl (by decide) (hf 4 _ rfl)
    obtain ⟨y5, h5⟩ := pfield_some hxl (by decide) (hf 5 _ rfl)
    obtain ⟨y6, h6⟩ := pfield_some hxl (by decide) (hf 6 _ rfl)
    simp only [List.getElem_toArray, List.getElem_cons_zero, List.getElem_cons_succ, pcells3, List.drop_zero, List.drop_succ_cons, List.take_succ_cons, List.take_zero] at h0 h1 h2 h3 h4 h5 h6
    obtain ⟨x0, e0, l0, m0⟩ := read_int Try.underlying3 h0
    cases e0
    obtain ⟨x1, e1, l1, m1⟩ := read_int Try.underlying3 h1
    cases e1
    obtain ⟨x2, e2, l2, m2⟩ := read_int Try.underlying3 h2
    cases e2
    obtain ⟨x3, e3, l3, m3⟩ := read_int Try.underlying3 h3
    cases e3
    obtain ⟨x4, e4, l4, m4⟩ := read_int Try.underlying3 h4
    cases e4
    obtain ⟨x5, e5, l5, m5⟩ := read_int Try.underlying3 h5
    cases e5
    obtain ⟨x6, e6, l6, m6⟩ := read_int Try.underlying3 h6
    cases e6
    exact ⟨⟨x0, x1, x2, x3, x4, x5, x6⟩, rfl, ⟨l0, m0⟩, ⟨l1, m1⟩, ⟨l2, m2⟩, ⟨l3, m3⟩, ⟨l4, m4⟩, ⟨l5, m5⟩, ⟨l6, m6⟩⟩
end
end Go.Proofs.Ytapdcgjccckjeaa
