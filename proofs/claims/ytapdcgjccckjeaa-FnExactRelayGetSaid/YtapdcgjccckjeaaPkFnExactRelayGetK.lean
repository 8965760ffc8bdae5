/- The texts OpenState, OpenBank, OpenChain, LawRelayGet. -/
import Derived.Test.YtapdcgjccckjeaaPkFnExactRelayGetJ
namespace Go.Proofs.Ytapdcgjccckjeaa
set_option maxRecDepth 100000
set_option linter.unusedVariables false
set_option linter.unusedSimpArgs false
open Go.RowKit Go.Deep
theorem pcells4 : Try.prog.cellsOf 4 = 1 := by kernel_rfl
theorem pcells24 : Try.prog.cellsOf 24 = 1 := by kernel_rfl
theorem pcells28 : Try.prog.cellsOf 28 = 1 := by kernel_rfl
theorem pcells53 : Try.prog.cellsOf 53 = 1 := by kernel_rfl
theorem pcells55 : Try.prog.cellsOf 55 = 7 := by kernel_rfl
section
variable {H : Type} {enc : TypeId × Value → H} {w : World} {spare : Nat → Bool} {held : Bool}
theorem opens_sints : OpensRow enc Try.prog w spare held 24 tInt := opens_row Try.underlying24 pcells3 (opens_int Try.underlying3)
theorem opens_bools : OpensRow enc Try.prog w spare held 28 tBool := opens_row Try.underlying28 pcells4 (opens_bool Try.underlying4)
theorem opens_pks : OpensRow enc Try.prog w spare held 53 tPk := opens_row Try.underlying53 pcells86 opens_Pk
theorem opens_St : Opens enc Try.prog w spare held 55 tSt := by
  intro fuel cs x h
  obtain ⟨xs, n, _, _, hlen, hxl, hf⟩ := DataW.trod_struct Try.underlying55 h
  rw [pcells55] at hlen
  match cs, hlen with
  | [c0, c1, c2, c3, c4, c5, c6], _ =>
    obtain ⟨y0, h0⟩ := pfield_some hxl (by decide) (hf 0 _ rfl)
    obtain ⟨y1, h1⟩ := pfield_some hxl (by decide) (hf 1 _ rfl)
    obtain ⟨y2, h2⟩ := pfield_some hxl (by decide) (hf 2 _ rfl)
    obtain ⟨y3, h3⟩ := pfield_some hxl (by decide) (hf 3 _ rfl)
    obtain ⟨y4, h4⟩ := pfield_some hxl (by decide) (hf 4 _ rfl)
    obtain ⟨y5, h5⟩ := pfield_some hxl (by decide) (hf 5 _ rfl)
    obtain ⟨y6, h6⟩ := pfield_some hxl (by decide) (hf 6 _ rfl)
    simp only [List.getElem_toArray, List.getElem_cons_zero, List.getElem_cons_succ, pcells3, pcells24, pcells28, pcells53, List.drop_zero, List.drop_succ_cons, List.take_succ_cons, List.take_zero] at h0 h1 h2 h3 h4 h5 h6
    obtain ⟨x0, e0, l0, m0⟩ := read_int Try.underlying3 h0
    cases e0
    obtain ⟨x1, e1, l1, m1⟩ := read_int Try.underlying3 h1
    cases e1
    obtain ⟨x2, e2, l2, m2⟩ := read_int Try.underlying3 h2
    cases e2
    obtain ⟨v3, ps, e3, r3⟩ := opens_pks _ _ _ h3
    cases e3
    obtain ⟨v4, bs, e4, r4⟩ := opens_bools _ _ _ h4
    cases e4
    obtain ⟨v5, bs2, e5, r5⟩ := opens_bools _ _ _ h5
    cases e5
    obtain ⟨v6, gs, e6, r6⟩ := opens_sints _ _ _ h6
    cases e6
    exact ⟨⟨x0, x1, x2, ps, bs, bs2, gs⟩, _, _, _, _, rfl, r3, r4, r5, r6, ⟨l0, m0⟩, ⟨l1, m1⟩, l2, m2⟩
end
end Go.Proofs.Ytapdcgjccckjeaa
namespace Go.Proofs.Ytapdcgjccckjeaa
set_option maxRecDepth 100000
set_option linter.unusedVariables false
set_option linter.unusedSimpArgs false
open Go.RowKit Go.Deep

theorem cells3 : Try.prog.cellsOf 3 = 1 := by kernel_rfl
theorem cells24 : Try.prog.cellsOf 24 = 1 := by kernel_rfl
theorem cells52 : Try.prog.cellsOf 52 = 3 := by kernel_rfl
section
variable {H : Type} {enc : TypeId × Value → H} {w : World} {spare : Nat → Bool} {held : Bool}
theorem opens_ints : OpensRow enc Try.prog w spare held 24 tInt := opens_row Try.underlying24 cells3 (opens_int Try.underlying3)
theorem field_some {α : Type} {xs : List α} {n i : Nat} {r : Option α} (hl : xs.length = n) (hi : i < n) (h : r = xs[i]?) : ∃ y, r = some y := ⟨xs[i]'(by omega), by rw [h, List.getElem?_eq_getElem]⟩
theorem opens_Bk : Opens enc Try.prog w spare held 52 tBk := by
  intro fuel cs x h
  obtain ⟨xs, n, _, _, hlen, hxl, hf⟩ := DataW.trod_struct Try.underlying52 h
  rw [cells52] at hlen
  match cs, hlen with
  | [c0, c1, c2], _ =>
    obtain ⟨y0, h0⟩ := field_some hxl (by decide) (hf 0 _ rfl)
    obtain ⟨y1, h1⟩ := field_some hxl (by decide) (hf 1 _ rfl)
    obtain ⟨y2, h2⟩ := field_some hxl (by decide) (hf 2 _ rfl)
    simp only [List.getElem_toArray, List.getElem_cons_zero, List.getElem_cons_succ, cells3, cells24, List.drop_zero, List.drop_succ_cons, List.take_succ_cons, List.take_zero] at h0 h1 h2
    obtain ⟨v0, own, e0, r0⟩ := opens_ints _ _ _ h0
    obtain ⟨v1, notes, e1, r1⟩ := opens_ints _ _ _ h1
    obtain ⟨l, e2, l0, l1⟩ := read_int Try.underlying3 h2
    cases e0
    cases e1
    cases e2
    exact ⟨⟨own, notes, l⟩, _, _, rfl, r0, r1, l0, l1⟩
end
end Go.Proofs.Ytapdcgjccckjeaa
namespace Go.Proofs.Ytapdcgjccckjeaa
set_option maxRecDepth 100000
set_option linter.unusedVariables false
set_option linter.unusedSimpArgs false
open Go.RowKit Go.Deep
theorem pcells52 : Try.prog.cellsOf 52 = 3 := by kernel_rfl
theorem pcells56 : Try.prog.cellsOf 56 = 1 := by kernel_rfl
theorem pcells58 : Try.prog.cellsOf 58 = 13 := by kernel_rfl
section
variable {H : Type} {enc : TypeId × Value → H} {w : World} {spare : Nat → Bool} {held : Bool}
theorem opens_sts : OpensRow enc Try.prog w spare held 56 tSt := opens_row Try.underlying56 pcells55 opens_St
theorem opens_Ch : Opens enc Try.prog w spare held 58 tCh := by
  intro fuel cs x h
  obtain ⟨xs, n, _, _, hlen, hxl, hf⟩ := DataW.trod_struct Try.underlying58 h
  rw [pcells58] at hlen
  match cs, hlen with
  | [c0, c1, c2, c3, c4, c5, c6, c7, c8, c9, c10, c11, c12], _ =>
    obtain ⟨y0, h0⟩ := pfield_some hxl (by decide) (hf 0 _ rfl)
    obtain ⟨y1, h1⟩ := pfield_some hxl (by decide) (hf 1 _ rfl)
    obtain ⟨y2, h2⟩ := pfield_some hxl (by decide) (hf 2 _ rfl)
    obtain ⟨y3, h3⟩ := pfield_some hxl (by decide) (hf 3 _ rfl)
    obtain ⟨y4, h4⟩ := pfield_some hxl (by decide) (hf 4 _ rfl)
    simp only [List.getElem_toArray, List.getElem_cons_zero, List.getElem_cons_succ, pcells3, pcells24, pcells52, pcells55, pcells56, List.drop_zero, List.drop_succ_cons, List.take_succ_cons, List.take_zero] at h0 h1 h2 h3 h4
    obtain ⟨x0, e0, l0, m0⟩ := read_int Try.underlying3 h0
    cases e0
    obtain ⟨b, hb⟩ := opens_Bk _ _ _ h1
    obtain ⟨s, hs⟩ := opens_St _ _ _ h2
    obtain ⟨v3, ps, e3, r3⟩ := opens_sts _ _ _ h3
    cases e3
    obtain ⟨v4, ks, e4, r4⟩ := opens_sints _ _ _ h4
    cases e4
    have hb' := hb
    have hs' := hs
    obtain ⟨b1, b2, eb, _⟩ := hb'
    cases eb
    obtain ⟨s1, s2, s3, s4, es, _⟩ := hs'
    cases es
    exact ⟨⟨x0, b, s, ps, ks⟩, _, _, _, _, _, _, _, _, rfl, hb, hs, r3, r4, l0, m0⟩
end
end Go.Proofs.Ytapdcgjccckjeaa
namespace Go.Proofs.Ytapdcgjccckjeaa
set_option maxRecDepth 100000
set_option linter.unusedVariables false
set_option linter.unusedSimpArgs false
open Go.RowKit
set_option maxRecDepth 100000 in
set_option maxHeartbeats 6400000 in
theorem FnExactRelayGet_c (w : World) (s : Ch) (c0 : List Value) (h0 : tCh.rd w s c0) (o : St) (c1 : List Value) (h1 : tSt.rd w o c1) (p : Pk) (c2 : List Value) (h2 : tPk.rd w p c2) : Calls Try.prog 14 #[.agg c0.toArray, .agg c1.toArray, .agg c2.toArray] w (Ret (.bool true) w) := by
  have LN0 := Lib.hid (show c0.length = 13 from tCh.len h0)
  have Q0 := Lib.hid h0
  have FIN0 := Lib.hid (fun (W : World) (f : Fr w W) => tCh.fr f Q0.out)
  clear h0
  have LN1 := Lib.hid (show c1.length = 7 from tSt.len h1)
  have Q1 := Lib.hid h1
  have FIN1 := Lib.hid (fun (W : World) (f : Fr w W) => tSt.fr f Q1.out)
  clear h1
  obtain ⟨rfl, p2⟩ := h2
  have OK2 := Lib.hid p2
  clear p2
  unfold Pk.cells
  have S := Sep.start w
  by_cases e0 : cntCh s ≤ 1048576
  case neg =>
    have s0 := Lib.hid (szr_no (l := 1048576) (n := cntCh s) (by omega))
    clear e0
    go_enter Try.func14, Try.ntmps14
    go_wp2_with (first | (go_at_call 32; (with_reducible refine (szChain_c _ s _ (1048576) (FIN0.out _ S.frame) (by omega) (by omega)).mono ?_); rintro e w9 ⟨rfl, f9⟩; rw [s0.out]; replace S := S.fr f9; clear f9) | (go_at_call 50; (with_reducible refine (szState_c _ o _ (1048576 - (cntCh s : Int)) (FIN1.out _ S.frame) (by omega) (by omega)).mono ?_); rintro e w9 ⟨rfl, f9⟩; rw [s1.out]; replace S := S.fr f9; clear f9) | ((with_reducible refine gate_box rfl ?_); refine aBx S ?_; clear S; intro g9 w9 z9 S) | ((with_reducible refine gate_alloc rfl ?_); refine aAl S ?_; clear S; intro g9 w9 z9 S) | ((with_reducible refine gate_load rfl ?_); first | refine aLd S ?_ | refine aPt S ?_ | refine aL1 S ?_) | ((with_reducible refine gate_st rfl ?_); (first | refine aS1 S ?_ | refine aSt S ?_ | refine aSp S ?_); clear S; intro w9 S))
    go_ret
    exact ⟨rfl, S.frame⟩
  have s0 := Lib.hid (szr_yes (l := 1048576) (n := cntCh s) (by omega))
  have HM0 := Lib.hid (show cntCh s ≤ 1048576 by omega)
  have z0 : (cntCh s : Int) ≤ 1048576 := by omega
  have t0 : decide (1048576 - (cntCh s : Int) < 0) = false := decide_eq_false (by omega)
  by_cases e1 : (cntSt o : Int) ≤ 1048576 - (cntCh s : Int)
  case neg =>
    have s1 := Lib.hid (szr_no (l := 1048576 - (cntCh s : Int)) (n := cntSt o) (by omega))
    clear e0 e1
    go_enter Try.func14, Try.ntmps14
    go_wp2_with (first | (go_at_call 32; (with_reducible refine (szChain_c _ s _ (1048576) (FIN0.out _ S.frame) (by omega) (by omega)).mono ?_); rintro e w9 ⟨rfl, f9⟩; rw [s0.out]; replace S := S.fr f9; clear f9) | (go_at_call 50; (with_reducible refine (szState_c _ o _ (1048576 - (cntCh s : Int)) (FIN1.out _ S.frame) (by omega) (by omega)).mono ?_); rintro e w9 ⟨rfl, f9⟩; rw [s1.out]; replace S := S.fr f9; clear f9) | ((with_reducible refine gate_box rfl ?_); refine aBx S ?_; clear S; intro g9 w9 z9 S) | ((with_reducible refine gate_alloc rfl ?_); refine aAl S ?_; clear S; intro g9 w9 z9 S) | ((with_reducible refine gate_load rfl ?_); first | refine aLd S ?_ | refine aPt S ?_ | refine aL1 S ?_) | ((with_reducible refine gate_st rfl ?_); (first | refine aS1 S ?_ | refine aSt S ?_ | refine aSp S ?_); clear S; intro w9 S))
    go_ret
    exact ⟨rfl, S.frame⟩
  have s1 := Lib.hid (szr_yes (l := 1048576 - (cntCh s : Int)) (n := cntSt o) (by omega))
  have HM1 := Lib.hid (show cntSt o ≤ 1048576 by omega)
  have z1 : (cntSt o : Int) ≤ 1048576 - (cntCh s : Int) := by omega
  have t1 : decide (1048576 - (cntCh s : Int) - (cntSt o : Int) < 0) = false := decide_eq_false (by omega)
  have m0 : (cntMCh s : Int) ≤ 100000000 := by have := cntMCh_le HM0.out; omega
  have m1 : (cntMSt o : Int) ≤ 100000000 := by have := cntMSt_le2 HM1.out; omega
  have tm : decide ((1 : Int) + (cntMCh s : Int) + (cntMSt o : Int) < 0) = false := decide_eq_false (by omega)
  obtain ⟨x, ok, hR⟩ : ∃ x ok, rgetV s o p = (x, ok) := ⟨_, _, rfl⟩
  have HX := Lib.hid (rgetV_small hR)
  have HR := Lib.hid hR
  have tx : decide ((1 : Int) + (cntMCh x : Int) < 0) = false := decide_eq_false (by omega)
  clear hR
  clear e0 e1
  go_enter Try.func14, Try.ntmps14
  go_wp2_with (first | (go_at_call 32; (with_reducible refine (szChain_c _ s _ (1048576) (FIN0.out _ S.frame) (by omega) (by omega)).mono ?_); rintro e w9 ⟨rfl, f9⟩; rw [s0.out]; replace S := S.fr f9; clear f9) | (go_at_call 50; (with_reducible refine (szState_c _ o _ (1048576 - (cntCh s : Int)) (FIN1.out _ S.frame) (by omega) (by omega)).mono ?_); rintro e w9 ⟨rfl, f9⟩; rw [s1.out]; replace S := S.fr f9; clear f9) | ((with_reducible refine gate_box rfl ?_); refine aBx S ?_; clear S; intro g9 w9 z9 S) | ((with_reducible refine gate_alloc rfl ?_); refine aAl S ?_; clear S; intro g9 w9 z9 S) | ((with_reducible refine gate_load rfl ?_); first | refine aLd S ?_ | refine aPt S ?_ | refine aL1 S ?_) | ((with_reducible refine gate_st rfl ?_); (first | refine aS1 S ?_ | refine aSt S ?_ | refine aSp S ?_); clear S; intro w9 S))
  apply cutT
  · intro H
    have S0 := S
    refine wp_region_noPanic ?_
    refine wp_region_held_drew (S := Sep _ _ _) (by kernel_rfl) S0.drew (fun _ => ?_)
    replace S := S.drew
    clear S0
    refine tk 0 ?_
    try simp only [Act.put, List.setIfInBounds_toArray, List.set_cons_zero, List.set_cons_succ]
    refine tk 2 ?_
    try simp only [Act.put, List.setIfInBounds_toArray, List.set_cons_zero, List.set_cons_succ]
    refine tk 4 ?_
    try simp only [Act.put, List.setIfInBounds_toArray, List.set_cons_zero, List.set_cons_succ]
    refine rdys [1, 10] ?_
    refine rdc 1 (fun K hK => ?_) ?_
    focus
      go_simp; (skip; go_at_call 34; (with_reducible refine (toChain_c _ s _ (FIN0.out _ S.frame) HM0.out).mono ?_); rintro e w9 ⟨ca0, Fa0, rfl, h9, n9, b9, f9⟩; replace S := S.new (aOwn tCh _ ca0 Fa0) h9 n9 b9 f9; clear h9 n9 b9 f9)
      (first | refine hK.out _ _ (S.sub subA) (fun _ => ?_) | (go_wp2_with fail; refine hK.out _ _ (S.sub subA) (fun _ => ?_)))
      clear hK K
      try simp only [Act.put, List.setIfInBounds_toArray, List.set_cons_zero, List.set_cons_succ]
    refine rdys [3, 10] ?_
    refine rdc 3 (fun K hK => ?_) ?_
    focus
      go_simp; (skip; go_at_call 52; (with_reducible refine (toState_c _ o _ (FIN1.out _ S.frame) HM1.out).mono ?_); rintro e w9 ⟨ca1, Fa1, rfl, h9, n9, b9, f9⟩; replace S := S.new (aOwn tSt _ ca1 Fa1) h9 n9 b9 f9; clear h9 n9 b9 f9)
      (first | refine hK.out _ _ (S.sub subA) (fun _ => ?_) | (go_wp2_with fail; refine hK.out _ _ (S.sub subA) (fun _ => ?_)))
      clear hK K
      try simp only [Act.put, List.setIfInBounds_toArray, List.set_cons_zero, List.set_cons_succ]
    refine rdys [5, 10] ?_
    refine rdc 5 (fun K hK => ?_) ?_
    focus
      go_simp; (skip; go_at_call 57; (with_reducible refine (toPacket_l _ p (OK2.out)).mono ?_); rintro e w9 ⟨rfl, f9⟩; replace S := S.fr f9; clear f9)
      (first | refine hK.out _ _ (S.sub subA) (fun _ => ?_) | (go_wp2_with fail; refine hK.out _ _ (S.sub subA) (fun _ => ?_)))
      clear hK K
      try simp only [Act.put, List.setIfInBounds_toArray, List.set_cons_zero, List.set_cons_succ]
    refine rdys [6, 10] ?_
    refine rdc 6 (fun K hK => ?_) ?_
    focus
      go_simp; (skip; go_at_call 56; (with_reducible refine (sRelayGet_e _ s o _ _ (by first | exact S.rd memA | exact S.rdIn memA) (by first | exact S.rd memA | exact S.rdIn memA) p HR.out).mono ?_); rintro e w9 ⟨ca2, Fa2, rfl, h9, n9, b9, f9⟩; replace S := S.new (aOwn tCh _ ca2 Fa2) h9 n9 b9 f9; clear h9 n9 b9 f9)
      (first | refine hK.out _ _ (S.sub subA) (fun _ => ?_) | (go_wp2_with fail; refine hK.out _ _ (S.sub subA) (fun _ => ?_)))
      clear hK K
      try simp only [Act.put, List.setIfInBounds_toArray, List.set_cons_zero, List.set_cons_succ]
    refine tk 7 ?_
    try simp only [Act.put, List.setIfInBounds_toArray, List.set_cons_zero, List.set_cons_succ]
    refine tk 8 ?_
    try simp only [Act.put, List.setIfInBounds_toArray, List.set_cons_zero, List.set_cons_succ]
    refine tk 9 ?_
    try simp only [Act.put, List.setIfInBounds_toArray, List.set_cons_zero, List.set_cons_succ]
    refine rdy1 10 (fun K hK => ?_)
    focus
      refine rgAl S ?_; clear S; intro gr8 w9 z9 S; clear z9
      (first | refine hK.out _ _ (S.sub subA) (fun _ => ?_) | (go_wp2_with fail; refine hK.out _ _ (S.sub subA) (fun _ => ?_)))
      clear hK K
      try simp only [Act.put, List.setIfInBounds_toArray, List.set_cons_zero, List.set_cons_succ]
    refine rdy1 11 (fun K hK => ?_)
    focus
      (first | refine rgS1 S ?_ | refine rgSt S ?_ | refine rgSp S ?_); clear S; intro w9 S
      (first | refine hK.out _ _ (S.sub subA) (fun _ => ?_) | (go_wp2_with fail; refine hK.out _ _ (S.sub subA) (fun _ => ?_)))
      clear hK K
      try simp only [Act.put, List.setIfInBounds_toArray, List.set_cons_zero, List.set_cons_succ]
    refine tk 12 ?_
    try simp only [Act.put, List.setIfInBounds_toArray, List.set_cons_zero, List.set_cons_succ]
    rotate_left
    refine rdc 10 (fun K hK => ?_) AllReadyH.nil
    focus
      refine rgAl S ?_; clear S; intro gr8 w9 z9 S; clear z9
      (first | refine hK.out _ _ (S.sub subA) (fun _ => ?_) | (go_wp2_with fail; refine hK.out _ _ (S.sub subA) (fun _ => ?_)))
      clear hK K
      try simp only [Act.put, List.setIfInBounds_toArray, List.set_cons_zero, List.set_cons_succ]
    refine rdy1 6 (fun K hK => ?_)
    focus
      go_simp; (skip; go_at_call 56; (with_reducible refine (sRelayGet_e _ s o _ _ (by first | exact S.rd memA | exact S.rdIn memA) (by first | exact S.rd memA | exact S.rdIn memA) p HR.out).mono ?_); rintro e w9 ⟨ca2, Fa2, rfl, h9, n9, b9, f9⟩; replace S := S.new (aOwn tCh _ ca2 Fa2) h9 n9 b9 f9; clear h9 n9 b9 f9)
      (first | refine hK.out _ _ (S.sub subA) (fun _ => ?_) | (go_wp2_with fail; refine hK.out _ _ (S.sub subA) (fun _ => ?_)))
      clear hK K
      try simp only [Act.put, List.setIfInBounds_toArray, List.set_cons_zero, List.set_cons_succ]
    refine tk 7 ?_
    try simp only [Act.put, List.setIfInBounds_toArray, List.set_cons_zero, List.set_cons_succ]
    refine tk 8 ?_
    try simp only [Act.put, List.setIfInBounds_toArray, List.set_cons_zero, List.set_cons_succ]
    refine tk 9 ?_
    try simp only [Act.put, List.setIfInBounds_toArray, List.set_cons_zero, List.set_cons_succ]
    refine rdy1 11 (fun K hK => ?_)
    focus
      (first | refine rgS1 S ?_ | refine rgSt S ?_ | refine rgSp S ?_); clear S; intro w9 S
      (first | refine hK.out _ _ (S.sub subA) (fun _ => ?_) | (go_wp2_with fail; refine hK.out _ _ (S.sub subA) (fun _ => ?_)))
      clear hK K
      try simp only [Act.put, List.setIfInBounds_toArray, List.set_cons_zero, List.set_cons_succ]
    refine tk 12 ?_
    try simp only [Act.put, List.setIfInBounds_toArray, List.set_cons_zero, List.set_cons_succ]
    rotate_left
    refine rdc 10 (fun K hK => ?_) AllReadyH.nil
    focus
      refine rgAl S ?_; clear S; intro gr8 w9 z9 S; clear z9
      (first | refine hK.out _ _ (S.sub subA) (fun _ => ?_) | (go_wp2_with fail; refine hK.out _ _ (S.sub subA) (fun _ => ?_)))
      clear hK K
      try simp only [Act.put, List.setIfInBounds_toArray, List.set_cons_zero, List.set_cons_succ]
    refine rdy1 5 (fun K hK => ?_)
    focus
      go_simp; (skip; go_at_call 57; (with_reducible refine (toPacket_l _ p (OK2.out)).mono ?_); rintro e w9 ⟨rfl, f9⟩; replace S := S.fr f9; clear f9)
      (first | refine hK.out _ _ (S.sub subA) (fun _ => ?_) | (go_wp2_with fail; refine hK.out _ _ (S.sub subA) (fun _ => ?_)))
      clear hK K
      try simp only [Act.put, List.setIfInBounds_toArray, List.set_cons_zero, List.set_cons_succ]
    refine rdy1 6 (fun K hK => ?_)
    focus
      go_simp; (skip; go_at_call 56; (with_reducible refine (sRelayGet_e _ s o _ _ (by first | exact S.rd memA | exact S.rdIn memA) (by first | exact S.rd memA | exact S.rdIn memA) p HR.out).mono ?_); rintro e w9 ⟨ca2, Fa2, rfl, h9, n9, b9, f9⟩; replace S := S.new (aOwn tCh _ ca2 Fa2) h9 n9 b9 f9; clear h9 n9 b9 f9)
      (first | refine hK.out _ _ (S.sub subA) (fun _ => ?_) | (go_wp2_with fail; refine hK.out _ _ (S.sub subA) (fun _ => ?_)))
      clear hK K
      try simp only [Act.put, List.setIfInBounds_toArray, List.set_cons_zero, List.set_cons_succ]
    refine tk 7 ?_
    try simp only [Act.put, List.setIfInBounds_toArray, List.set_cons_zero, List.set_cons_succ]
    refine tk 8 ?_
    try simp only [Act.put, List.setIfInBounds_toArray, List.set_cons_zero, List.set_cons_succ]
    refine tk 9 ?_
    try simp only [Act.put, List.setIfInBounds_toArray, List.set_cons_zero, List.set_cons_succ]
    refine rdy1 11 (fun K hK => ?_)
    focus
      (first | refine rgS1 S ?_ | refine rgSt S ?_ | refine rgSp S ?_); clear S; intro w9 S
      (first | refine hK.out _ _ (S.sub subA) (fun _ => ?_) | (go_wp2_with fail; refine hK.out _ _ (S.sub subA) (fun _ => ?_)))
      clear hK K
      try simp only [Act.put, List.setIfInBounds_toArray, List.set_cons_zero, List.set_cons_succ]
    refine tk 12 ?_
    try simp only [Act.put, List.setIfInBounds_toArray, List.set_cons_zero, List.set_cons_succ]
    rotate_left
    refine rdc 10 (fun K hK => ?_) AllReadyH.nil
    focus
      refine rgAl S ?_; clear S; intro gr8 w9 z9 S; clear z9
      (first | refine hK.out _ _ (S.sub subA) (fun _ => ?_) | (go_wp2_with fail; refine hK.out _ _ (S.sub subA) (fun _ => ?_)))
      clear hK K
      try simp only [Act.put, List.setIfInBounds_toArray, List.set_cons_zero, List.set_cons_succ]
    refine rdy1 3 (fun K hK => ?_)
    focus
      go_simp; (skip; go_at_call 52; (with_reducible refine (toState_c _ o _ (FIN1.out _ S.frame) HM1.out).mono ?_); rintro e w9 ⟨ca1, Fa1, rfl, h9, n9, b9, f9⟩; replace S := S.new (aOwn tSt _ ca1 Fa1) h9 n9 b9 f9; clear h9 n9 b9 f9)
      (first | refine hK.out _ _ (S.sub subA) (fun _ => ?_) | (go_wp2_with fail; refine hK.out _ _ (S.sub subA) (fun _ => ?_)))
      clear hK K
      try simp only [Act.put, List.setIfInBounds_toArray, List.set_cons_zero, List.set_cons_succ]
    refine rdy1 5 (fun K hK => ?_)
    focus
      go_simp; (skip; go_at_call 57; (with_reducible refine (toPacket_l _ p (OK2.out)).mono ?_); rintro e w9 ⟨rfl, f9⟩; replace S := S.fr f9; clear f9)
      (first | refine hK.out _ _ (S.sub subA) (fun _ => ?_) | (go_wp2_with fail; refine hK.out _ _ (S.sub subA) (fun _ => ?_)))
      clear hK K
      try simp only [Act.put, List.setIfInBounds_toArray, List.set_cons_zero, List.set_cons_succ]
    refine rdy1 6 (fun K hK => ?_)
    focus
      go_simp; (skip; go_at_call 56; (with_reducible refine (sRelayGet_e _ s o _ _ (by first | exact S.rd memA | exact S.rdIn memA) (by first | exact S.rd memA | exact S.rdIn memA) p HR.out).mono ?_); rintro e w9 ⟨ca2, Fa2, rfl, h9, n9, b9, f9⟩; replace S := S.new (aOwn tCh _ ca2 Fa2) h9 n9 b9 f9; clear h9 n9 b9 f9)
      (first | refine hK.out _ _ (S.sub subA) (fun _ => ?_) | (go_wp2_with fail; refine hK.out _ _ (S.sub subA) (fun _ => ?_)))
      clear hK K
      try simp only [Act.put, List.setIfInBounds_toArray, List.set_cons_zero, List.set_cons_succ]
    refine tk 7 ?_
    try simp only [Act.put, List.setIfInBounds_toArray, List.set_cons_zero, List.set_cons_succ]
    refine tk 8 ?_
    try simp only [Act.put, List.setIfInBounds_toArray, List.set_cons_zero, List.set_cons_succ]
    refine tk 9 ?_
    try simp only [Act.put, List.setIfInBounds_toArray, List.set_cons_zero, List.set_cons_succ]
    refine rdy1 11 (fun K hK => ?_)
    focus
      (first | refine rgS1 S ?_ | refine rgSt S ?_ | refine rgSp S ?_); clear S; intro w9 S
      (first | refine hK.out _ _ (S.sub subA) (fun _ => ?_) | (go_wp2_with fail; refine hK.out _ _ (S.sub subA) (fun _ => ?_)))
      clear hK K
      try simp only [Act.put, List.setIfInBounds_toArray, List.set_cons_zero, List.set_cons_succ]
    refine tk 12 ?_
    try simp only [Act.put, List.setIfInBounds_toArray, List.set_cons_zero, List.set_cons_succ]
    rotate_left
    refine rdc 10 (fun K hK => ?_) AllReadyH.nil
    focus
      refine rgAl S ?_; clear S; intro gr8 w9 z9 S; clear z9
      (first | refine hK.out _ _ (S.sub subA) (fun _ => ?_) | (go_wp2_with fail; refine hK.out _ _ (S.sub subA) (fun _ => ?_)))
      clear hK K
      try simp only [Act.put, List.setIfInBounds_toArray, List.set_cons_zero, List.set_cons_succ]
    refine rdy1 1 (fun K hK => ?_)
    focus
      go_simp; (skip; go_at_call 34; (with_reducible refine (toChain_c _ s _ (FIN0.out _ S.frame) HM0.out).mono ?_); rintro e w9 ⟨ca0, Fa0, rfl, h9, n9, b9, f9⟩; replace S := S.new (aOwn tCh _ ca0 Fa0) h9 n9 b9 f9; clear h9 n9 b9 f9)
      (first | refine hK.out _ _ (S.sub subA) (fun _ => ?_) | (go_wp2_with fail; refine hK.out _ _ (S.sub subA) (fun _ => ?_)))
      clear hK K
      try simp only [Act.put, List.setIfInBounds_toArray, List.set_cons_zero, List.set_cons_succ]
    refine rdy1 3 (fun K hK => ?_)
    focus
      go_simp; (skip; go_at_call 52; (with_reducible refine (toState_c _ o _ (FIN1.out _ S.frame) HM1.out).mono ?_); rintro e w9 ⟨ca1, Fa1, rfl, h9, n9, b9, f9⟩; replace S := S.new (aOwn tSt _ ca1 Fa1) h9 n9 b9 f9; clear h9 n9 b9 f9)
      (first | refine hK.out _ _ (S.sub subA) (fun _ => ?_) | (go_wp2_with fail; refine hK.out _ _ (S.sub subA) (fun _ => ?_)))
      clear hK K
      try simp only [Act.put, List.setIfInBounds_toArray, List.set_cons_zero, List.set_cons_succ]
    refine rdy1 5 (fun K hK => ?_)
    focus
      go_simp; (skip; go_at_call 57; (with_reducible refine (toPacket_l _ p (OK2.out)).mono ?_); rintro e w9 ⟨rfl, f9⟩; replace S := S.fr f9; clear f9)
      (first | refine hK.out _ _ (S.sub subA) (fun _ => ?_) | (go_wp2_with fail; refine hK.out _ _ (S.sub subA) (fun _ => ?_)))
      clear hK K
      try simp only [Act.put, List.setIfInBounds_toArray, List.set_cons_zero, List.set_cons_succ]
    refine rdy1 6 (fun K hK => ?_)
    focus
      go_simp; (skip; go_at_call 56; (with_reducible refine (sRelayGet_e _ s o _ _ (by first | exact S.rd memA | exact S.rdIn memA) (by first | exact S.rd memA | exact S.rdIn memA) p HR.out).mono ?_); rintro e w9 ⟨ca2, Fa2, rfl, h9, n9, b9, f9⟩; replace S := S.new (aOwn tCh _ ca2 Fa2) h9 n9 b9 f9; clear h9 n9 b9 f9)
      (first | refine hK.out _ _ (S.sub subA) (fun _ => ?_) | (go_wp2_with fail; refine hK.out _ _ (S.sub subA) (fun _ => ?_)))
      clear hK K
      try simp only [Act.put, List.setIfInBounds_toArray, List.set_cons_zero, List.set_cons_succ]
    refine tk 7 ?_
    try simp only [Act.put, List.setIfInBounds_toArray, List.set_cons_zero, List.set_cons_succ]
    refine tk 8 ?_
    try simp only [Act.put, List.setIfInBounds_toArray, List.set_cons_zero, List.set_cons_succ]
    refine tk 9 ?_
    try simp only [Act.put, List.setIfInBounds_toArray, List.set_cons_zero, List.set_cons_succ]
    refine rdy1 11 (fun K hK => ?_)
    focus
      (first | refine rgS1 S ?_ | refine rgSt S ?_ | refine rgSp S ?_); clear S; intro w9 S
      (first | refine hK.out _ _ (S.sub subA) (fun _ => ?_) | (go_wp2_with fail; refine hK.out _ _ (S.sub subA) (fun _ => ?_)))
      clear hK K
      try simp only [Act.put, List.setIfInBounds_toArray, List.set_cons_zero, List.set_cons_succ]
    refine tk 12 ?_
    try simp only [Act.put, List.setIfInBounds_toArray, List.set_cons_zero, List.set_cons_succ]
    rotate_left
    all_goals
      refine wpAnyH_done (by kernel_rfl) ?_ _
      refine NoPanic.normal ?_
      replace S := S.rest (a := aOwn tCh s ca0 Fa0) delA
      replace S := S.rest (a := aOwn tSt o ca1 Fa1) delA
      replace S := S.pull (a := aBox gr8 _ _ _) delA
      replace S := S.pull (a := aOwn tCh x ca2 Fa2) delA
      revert S
      revert w9
      revert Fa2
      revert ca2
      revert ca1
      revert ca0
      revert gr8
      exact H
  intro gr8 ca0 ca1 ca2 Fa2 w9 _ S
  go_wp2_with (first | (go_at_call 34; (with_reducible refine (toChain_c _ s _ (FIN0.out _ S.frame) HM0.out).mono ?_); rintro e w9 ⟨cs9, F9, rfl, h9, n9, b9, f9⟩; replace S := S.new (aOwn tCh _ cs9 F9) h9 n9 b9 f9; clear h9 n9 b9 f9) | (go_at_call 52; (with_reducible refine (toState_c _ o _ (FIN1.out _ S.frame) HM1.out).mono ?_); rintro e w9 ⟨cs9, F9, rfl, h9, n9, b9, f9⟩; replace S := S.new (aOwn tSt _ cs9 F9) h9 n9 b9 f9; clear h9 n9 b9 f9) | ((with_reducible refine gate_box rfl ?_); refine aBx S ?_; clear S; intro g9 w9 z9 S) | ((with_reducible refine gate_alloc rfl ?_); refine aAl S ?_; clear S; intro g9 w9 z9 S) | ((with_reducible refine gate_load rfl ?_); first | refine aLd S ?_ | refine aPt S ?_ | refine aL1 S ?_) | ((with_reducible refine gate_st rfl ?_); (first | refine aS1 S ?_ | refine aSt S ?_ | refine aSp S ?_); clear S; intro w9 S))
  have S0 := S
  refine wp_region_noPanic ?_
  refine wp_region_held_drew (S := Sep _ _ _) (by kernel_rfl) S0.drew (fun _ => ?_)
  replace S := S.drew
  clear S0
  refine tk 0 ?_
  try simp only [Act.put, List.setIfInBounds_toArray, List.set_cons_zero, List.set_cons_succ]
  refine tk 1 ?_
  try simp only [Act.put, List.setIfInBounds_toArray, List.set_cons_zero, List.set_cons_succ]
  refine tk 2 ?_
  try simp only [Act.put, List.setIfInBounds_toArray, List.set_cons_zero, List.set_cons_succ]
  refine rdys [3, 8] ?_
  refine rdc 3 (fun K hK => ?_) ?_
  · go_simp; (skip; go_at_call 57; (with_reducible refine (toPacket_l _ p (OK2.out)).mono ?_); rintro e w9 ⟨rfl, f9⟩; replace S := S.fr f9; clear f9)
    (first | refine hK.out _ _ (S.sub subA) (fun _ => ?_) | (go_wp2_with fail; refine hK.out _ _ (S.sub subA) (fun _ => ?_)))
    clear hK K
    try simp only [Act.put, List.setIfInBounds_toArray, List.set_cons_zero, List.set_cons_succ]
    refine rdys [4, 8] ?_
    refine rdc 4 (fun K hK => ?_) ?_
    · go_simp; (skip; go_at_call 58; (with_reducible refine (RelayGet_e _ s o _ _ (by first | exact S.rd memA | exact S.rdIn memA) (by first | exact S.rd memA | exact S.rdIn memA) p HR.out).mono ?_); rintro e w9 ⟨cs9, F9, rfl, h9, n9, b9, f9⟩; replace S := S.new (aOwn tCh _ cs9 F9) h9 n9 b9 f9; clear h9 n9 b9 f9)
      (first | refine hK.out _ _ (S.sub subA) (fun _ => ?_) | (go_wp2_with fail; refine hK.out _ _ (S.sub subA) (fun _ => ?_)))
      clear hK K
      try simp only [Act.put, List.setIfInBounds_toArray, List.set_cons_zero, List.set_cons_succ]
      refine tk 5 ?_
      try simp only [Act.put, List.setIfInBounds_toArray, List.set_cons_zero, List.set_cons_succ]
      refine tk 6 ?_
      try simp only [Act.put, List.setIfInBounds_toArray, List.set_cons_zero, List.set_cons_succ]
      refine tk 7 ?_
      try simp only [Act.put, List.setIfInBounds_toArray, List.set_cons_zero, List.set_cons_succ]
      refine rdy1 8 (fun K hK => ?_)
      refine rgAl S ?_; clear S; intro g9 w9 z9 S
      (first | refine hK.out _ _ (S.sub subA) (fun _ => ?_) | (go_wp2_with fail; refine hK.out _ _ (S.sub subA) (fun _ => ?_)))
      clear hK K
      try simp only [Act.put, List.setIfInBounds_toArray, List.set_cons_zero, List.set_cons_succ]
      refine rdy1 9 (fun K hK => ?_)
      (first | refine rgS1 S ?_ | refine rgSt S ?_ | refine rgSp S ?_); clear S; intro w9 S
      (first | refine hK.out _ _ (S.sub subA) (fun _ => ?_) | (go_wp2_with fail; refine hK.out _ _ (S.sub subA) (fun _ => ?_)))
      clear hK K
      try simp only [Act.put, List.setIfInBounds_toArray, List.set_cons_zero, List.set_cons_succ]
      refine tk 10 ?_
      try simp only [Act.put, List.setIfInBounds_toArray, List.set_cons_zero, List.set_cons_succ]
      refine wpAnyH_done (by kernel_rfl) ?_ _
      refine NoPanic.normal ?_
      go_wp2_with (first | (go_at_call 24; (with_reducible refine (eqChain_c _ x _ _ (by first | exact S.rd memA | exact S.rdIn memA) (by first | exact S.rd memA | exact S.rdIn memA)).mono ?_); rintro e w9 ⟨rfl, f9⟩; replace S := S.fr f9; clear f9) | ((with_reducible refine gate_box rfl ?_); refine aBx S ?_; clear S; intro g9 w9 z9 S) | ((with_reducible refine gate_alloc rfl ?_); refine aAl S ?_; clear S; intro g9 w9 z9 S) | ((with_reducible refine gate_load rfl ?_); first | refine aLd S ?_ | refine aPt S ?_ | refine aL1 S ?_) | ((with_reducible refine gate_st rfl ?_); (first | refine aS1 S ?_ | refine aSt S ?_ | refine aSp S ?_); clear S; intro w9 S))
      have S0 := S
      refine wp_region_noPanic ?_
      refine wp_region_held_drew (S := Sep _ _ _) (by kernel_rfl) S0.drew (fun _ => ?_)
      replace S := S.drew
      clear S0
      refine tk 0 ?_
      try simp only [Act.put, List.setIfInBounds_toArray, List.set_cons_zero, List.set_cons_succ]
      refine tk 1 ?_
      try simp only [Act.put, List.setIfInBounds_toArray, List.set_cons_zero, List.set_cons_succ]
      refine rdy1 2 (fun K hK => ?_)
      go_simp; (skip; go_at_call 34; (with_reducible refine (toChain_c _ s _ (FIN0.out _ S.frame) HM0.out).mono ?_); rintro e w9 ⟨cs9, F9, rfl, h9, n9, b9, f9⟩; replace S := S.new (aOwn tCh _ cs9 F9) h9 n9 b9 f9; clear h9 n9 b9 f9)
      (first | refine hK.out _ _ (S.sub subA) (fun _ => ?_) | (go_wp2_with fail; refine hK.out _ _ (S.sub subA) (fun _ => ?_)))
      clear hK K
      try simp only [Act.put, List.setIfInBounds_toArray, List.set_cons_zero, List.set_cons_succ]
      refine rdy1 3 (fun K hK => ?_)
      go_simp; (skip; go_at_call 24; (with_reducible refine (eqChain_c _ s _ _ (by first | exact S.rd memA | exact S.rdIn memA) (by first | exact S.rd memA | exact S.rdIn memA)).mono ?_); rintro e w9 ⟨rfl, f9⟩; replace S := S.fr f9; clear f9)
      (first | refine hK.out _ _ (S.sub subA) (fun _ => ?_) | (go_wp2_with fail; refine hK.out _ _ (S.sub subA) (fun _ => ?_)))
      clear hK K
      try simp only [Act.put, List.setIfInBounds_toArray, List.set_cons_zero, List.set_cons_succ]
      refine tk 4 ?_
      try simp only [Act.put, List.setIfInBounds_toArray, List.set_cons_zero, List.set_cons_succ]
      refine wpAnyH_done (by kernel_rfl) ?_ _
      refine NoPanic.normal ?_
      go_wp2_with (first | ((with_reducible refine gate_box rfl ?_); refine aBx S ?_; clear S; intro g9 w9 z9 S) | ((with_reducible refine gate_alloc rfl ?_); refine aAl S ?_; clear S; intro g9 w9 z9 S) | ((with_reducible refine gate_load rfl ?_); first | refine aLd S ?_ | refine aPt S ?_ | refine aL1 S ?_) | ((with_reducible refine gate_st rfl ?_); (first | refine aS1 S ?_ | refine aSt S ?_ | refine aSp S ?_); clear S; intro w9 S))
      have S0 := S
      refine wp_region_noPanic ?_
      refine wp_region_held_drew (S := Sep _ _ _) (by kernel_rfl) S0.drew (fun _ => ?_)
      replace S := S.drew
      clear S0
      refine tk 0 ?_
      try simp only [Act.put, List.setIfInBounds_toArray, List.set_cons_zero, List.set_cons_succ]
      refine tk 1 ?_
      try simp only [Act.put, List.setIfInBounds_toArray, List.set_cons_zero, List.set_cons_succ]
      refine rdy1 2 (fun K hK => ?_)
      go_simp; (skip; go_at_call 52; (with_reducible refine (toState_c _ o _ (FIN1.out _ S.frame) HM1.out).mono ?_); rintro e w9 ⟨cs9, F9, rfl, h9, n9, b9, f9⟩; replace S := S.new (aOwn tSt _ cs9 F9) h9 n9 b9 f9; clear h9 n9 b9 f9)
      (first | refine hK.out _ _ (S.sub subA) (fun _ => ?_) | (go_wp2_with fail; refine hK.out _ _ (S.sub subA) (fun _ => ?_)))
      clear hK K
      try simp only [Act.put, List.setIfInBounds_toArray, List.set_cons_zero, List.set_cons_succ]
      refine rdy1 3 (fun K hK => ?_)
      go_simp; (skip; go_at_call 43; (with_reducible refine (eqState_c _ o _ _ (by first | exact S.rd memA | exact S.rdIn memA) (by first | exact S.rd memA | exact S.rdIn memA)).mono ?_); rintro e w9 ⟨rfl, f9⟩; replace S := S.fr f9; clear f9)
      (first | refine hK.out _ _ (S.sub subA) (fun _ => ?_) | (go_wp2_with fail; refine hK.out _ _ (S.sub subA) (fun _ => ?_)))
      clear hK K
      try simp only [Act.put, List.setIfInBounds_toArray, List.set_cons_zero, List.set_cons_succ]
      refine tk 4 ?_
      try simp only [Act.put, List.setIfInBounds_toArray, List.set_cons_zero, List.set_cons_succ]
      refine wpAnyH_done (by kernel_rfl) ?_ _
      refine NoPanic.normal ?_
      go_wp2_with (first | (go_at_call 25; (with_reducible refine (markChain_b _ s _ _ (1) (cntCh_past HM0.out) (S.both memA) (by omega) (by omega)).mono ?_); rintro e w9 ⟨rfl, h9, c9⟩; replace S := S.putOwn putA h9 c9; clear h9 c9) | (go_at_call 44; (with_reducible refine (markState_b _ o _ _ (1 + (cntMCh s : Int)) (S.both memA) (by omega) (by omega)).mono ?_); rintro e w9 ⟨rfl, h9, c9⟩; replace S := S.putOwn putA h9 c9; clear h9 c9) | (go_at_call 24; (with_reducible refine (eqChain_c _ x _ _ (by first | exact S.rd memA | exact S.rdIn memA) (by first | exact S.rd memA | exact S.rdIn memA)).mono ?_); rintro e w9 ⟨rfl, f9⟩; replace S := S.fr f9; clear f9) | (go_at_call 25; (with_reducible refine (markChain_b _ x _ _ (1) (smallCh_past HX.out) (S.both memA) (by omega) (by omega)).mono ?_); rintro e w9 ⟨rfl, h9, c9⟩; replace S := S.putOwn putA h9 c9; clear h9 c9) | (go_at_call 26; (with_reducible refine (heldChain_c _ x _ 1 (by first | exact S.rd memA | exact S.rdIn memA) HX.out (by omega) (by omega)).mono ?_); rintro e w9 ⟨rfl, f9⟩; replace S := S.fr f9; clear f9) | ((with_reducible refine gate_box rfl ?_); refine aBx S ?_; clear S; intro g9 w9 z9 S) | ((with_reducible refine gate_alloc rfl ?_); refine aAl S ?_; clear S; intro g9 w9 z9 S) | ((with_reducible refine gate_load rfl ?_); first | refine aLd S ?_ | refine aPt S ?_ | refine aL1 S ?_) | ((with_reducible refine gate_st rfl ?_); (first | refine aS1 S ?_ | refine aSt S ?_ | refine aSp S ?_); clear S; intro w9 S))
      apply cutT
      · intro H
        have S0 := S
        refine wp_region_noPanic ?_
        refine wp_region_held_drew (S := Sep _ _ _) (by kernel_rfl) S0.drew (fun _ => ?_)
        replace S := S.drew
        clear S0
        refine tk 0 ?_
        try simp only [Act.put, List.setIfInBounds_toArray, List.set_cons_zero, List.set_cons_succ]
        refine tk 2 ?_
        try simp only [Act.put, List.setIfInBounds_toArray, List.set_cons_zero, List.set_cons_succ]
        refine tk 4 ?_
        try simp only [Act.put, List.setIfInBounds_toArray, List.set_cons_zero, List.set_cons_succ]
        refine rdys [1, 10] ?_
        refine rdc 1 (fun K hK => ?_) ?_
        focus
          go_simp; (skip; go_at_call 34; (with_reducible refine (toChain_c _ s _ (FIN0.out _ S.frame) HM0.out).mono ?_); rintro e w9 ⟨ca0, Fa0, rfl, h9, n9, b9, f9⟩; replace S := S.new (aOwn tCh _ ca0 Fa0) h9 n9 b9 f9; clear h9 n9 b9 f9)
          (first | refine hK.out _ _ (S.sub subA) (fun _ => ?_) | (go_wp2_with fail; refine hK.out _ _ (S.sub subA) (fun _ => ?_)))
          clear hK K
          try simp only [Act.put, List.setIfInBounds_toArray, List.set_cons_zero, List.set_cons_succ]
        refine rdys [3, 10] ?_
        refine rdc 3 (fun K hK => ?_) ?_
        focus
          go_simp; (skip; go_at_call 52; (with_reducible refine (toState_c _ o _ (FIN1.out _ S.frame) HM1.out).mono ?_); rintro e w9 ⟨ca1, Fa1, rfl, h9, n9, b9, f9⟩; replace S := S.new (aOwn tSt _ ca1 Fa1) h9 n9 b9 f9; clear h9 n9 b9 f9)
          (first | refine hK.out _ _ (S.sub subA) (fun _ => ?_) | (go_wp2_with fail; refine hK.out _ _ (S.sub subA) (fun _ => ?_)))
          clear hK K
          try simp only [Act.put, List.setIfInBounds_toArray, List.set_cons_zero, List.set_cons_succ]
        refine rdys [5, 10] ?_
        refine rdc 5 (fun K hK => ?_) ?_
        focus
          go_simp; (skip; go_at_call 57; (with_reducible refine (toPacket_l _ p (OK2.out)).mono ?_); rintro e w9 ⟨rfl, f9⟩; replace S := S.fr f9; clear f9)
          (first | refine hK.out _ _ (S.sub subA) (fun _ => ?_) | (go_wp2_with fail; refine hK.out _ _ (S.sub subA) (fun _ => ?_)))
          clear hK K
          try simp only [Act.put, List.setIfInBounds_toArray, List.set_cons_zero, List.set_cons_succ]
        refine rdys [6, 10] ?_
        refine rdc 6 (fun K hK => ?_) ?_
        focus
          go_simp; (skip; go_at_call 58; (with_reducible refine (RelayGet_e _ s o _ _ (by first | exact S.rd memA | exact S.rdIn memA) (by first | exact S.rd memA | exact S.rdIn memA) p HR.out).mono ?_); rintro e w9 ⟨ca2, Fa2, rfl, h9, n9, b9, f9⟩; replace S := S.new (aOwn tCh _ ca2 Fa2) h9 n9 b9 f9; clear h9 n9 b9 f9)
          (first | refine hK.out _ _ (S.sub subA) (fun _ => ?_) | (go_wp2_with fail; refine hK.out _ _ (S.sub subA) (fun _ => ?_)))
          clear hK K
          try simp only [Act.put, List.setIfInBounds_toArray, List.set_cons_zero, List.set_cons_succ]
        refine tk 7 ?_
        try simp only [Act.put, List.setIfInBounds_toArray, List.set_cons_zero, List.set_cons_succ]
        refine tk 8 ?_
        try simp only [Act.put, List.setIfInBounds_toArray, List.set_cons_zero, List.set_cons_succ]
        refine tk 9 ?_
        try simp only [Act.put, List.setIfInBounds_toArray, List.set_cons_zero, List.set_cons_succ]
        refine rdy1 10 (fun K hK => ?_)
        focus
          refine rgAl S ?_; clear S; intro gr17 w9 z9 S; clear z9
          (first | refine hK.out _ _ (S.sub subA) (fun _ => ?_) | (go_wp2_with fail; refine hK.out _ _ (S.sub subA) (fun _ => ?_)))
          clear hK K
          try simp only [Act.put, List.setIfInBounds_toArray, List.set_cons_zero, List.set_cons_succ]
        refine rdy1 11 (fun K hK => ?_)
        focus
          (first | refine rgS1 S ?_ | refine rgSt S ?_ | refine rgSp S ?_); clear S; intro w9 S
          (first | refine hK.out _ _ (S.sub subA) (fun _ => ?_) | (go_wp2_with fail; refine hK.out _ _ (S.sub subA) (fun _ => ?_)))
          clear hK K
          try simp only [Act.put, List.setIfInBounds_toArray, List.set_cons_zero, List.set_cons_succ]
        refine tk 12 ?_
        try simp only [Act.put, List.setIfInBounds_toArray, List.set_cons_zero, List.set_cons_succ]
        rotate_left
        refine rdc 10 (fun K hK => ?_) AllReadyH.nil
        focus
          refine rgAl S ?_; clear S; intro gr17 w9 z9 S; clear z9
          (first | refine hK.out _ _ (S.sub subA) (fun _ => ?_) | (go_wp2_with fail; refine hK.out _ _ (S.sub subA) (fun _ => ?_)))
          clear hK K
          try simp only [Act.put, List.setIfInBounds_toArray, List.set_cons_zero, List.set_cons_succ]
        refine rdy1 6 (fun K hK => ?_)
        focus
          go_simp; (skip; go_at_call 58; (with_reducible refine (RelayGet_e _ s o _ _ (by first | exact S.rd memA | exact S.rdIn memA) (by first | exact S.rd memA | exact S.rdIn memA) p HR.out).mono ?_); rintro e w9 ⟨ca2, Fa2, rfl, h9, n9, b9, f9⟩; replace S := S.new (aOwn tCh _ ca2 Fa2) h9 n9 b9 f9; clear h9 n9 b9 f9)
          (first | refine hK.out _ _ (S.sub subA) (fun _ => ?_) | (go_wp2_with fail; refine hK.out _ _ (S.sub subA) (fun _ => ?_)))
          clear hK K
          try simp only [Act.put, List.setIfInBounds_toArray, List.set_cons_zero, List.set_cons_succ]
        refine tk 7 ?_
        try simp only [Act.put, List.setIfInBounds_toArray, List.set_cons_zero, List.set_cons_succ]
        refine tk 8 ?_
        try simp only [Act.put, List.setIfInBounds_toArray, List.set_cons_zero, List.set_cons_succ]
        refine tk 9 ?_
        try simp only [Act.put, List.setIfInBounds_toArray, List.set_cons_zero, List.set_cons_succ]
        refine rdy1 11 (fun K hK => ?_)
        focus
          (first | refine rgS1 S ?_ | refine rgSt S ?_ | refine rgSp S ?_); clear S; intro w9 S
          (first | refine hK.out _ _ (S.sub subA) (fun _ => ?_) | (go_wp2_with fail; refine hK.out _ _ (S.sub subA) (fun _ => ?_)))
          clear hK K
          try simp only [Act.put, List.setIfInBounds_toArray, List.set_cons_zero, List.set_cons_succ]
        refine tk 12 ?_
        try simp only [Act.put, List.setIfInBounds_toArray, List.set_cons_zero, List.set_cons_succ]
        rotate_left
        refine rdc 10 (fun K hK => ?_) AllReadyH.nil
        focus
          refine rgAl S ?_; clear S; intro gr17 w9 z9 S; clear z9
          (first | refine hK.out _ _ (S.sub subA) (fun _ => ?_) | (go_wp2_with fail; refine hK.out _ _ (S.sub subA) (fun _ => ?_)))
          clear hK K
          try simp only [Act.put, List.setIfInBounds_toArray, List.set_cons_zero, List.set_cons_succ]
        refine rdy1 5 (fun K hK => ?_)
        focus
          go_simp; (skip; go_at_call 57; (with_reducible refine (toPacket_l _ p (OK2.out)).mono ?_); rintro e w9 ⟨rfl, f9⟩; replace S := S.fr f9; clear f9)
          (first | refine hK.out _ _ (S.sub subA) (fun _ => ?_) | (go_wp2_with fail; refine hK.out _ _ (S.sub subA) (fun _ => ?_)))
          clear hK K
          try simp only [Act.put, List.setIfInBounds_toArray, List.set_cons_zero, List.set_cons_succ]
        refine rdy1 6 (fun K hK => ?_)
        focus
          go_simp; (skip; go_at_call 58; (with_reducible refine (RelayGet_e _ s o _ _ (by first | exact S.rd memA | exact S.rdIn memA) (by first | exact S.rd memA | exact S.rdIn memA) p HR.out).mono ?_); rintro e w9 ⟨ca2, Fa2, rfl, h9, n9, b9, f9⟩; replace S := S.new (aOwn tCh _ ca2 Fa2) h9 n9 b9 f9; clear h9 n9 b9 f9)
          (first | refine hK.out _ _ (S.sub subA) (fun _ => ?_) | (go_wp2_with fail; refine hK.out _ _ (S.sub subA) (fun _ => ?_)))
          clear hK K
          try simp only [Act.put, List.setIfInBounds_toArray, List.set_cons_zero, List.set_cons_succ]
        refine tk 7 ?_
        try simp only [Act.put, List.setIfInBounds_toArray, List.set_cons_zero, List.set_cons_succ]
        refine tk 8 ?_
        try simp only [Act.put, List.setIfInBounds_toArray, List.set_cons_zero, List.set_cons_succ]
        refine tk 9 ?_
        try simp only [Act.put, List.setIfInBounds_toArray, List.set_cons_zero, List.set_cons_succ]
        refine rdy1 11 (fun K hK => ?_)
        focus
          (first | refine rgS1 S ?_ | refine rgSt S ?_ | refine rgSp S ?_); clear S; intro w9 S
          (first | refine hK.out _ _ (S.sub subA) (fun _ => ?_) | (go_wp2_with fail; refine hK.out _ _ (S.sub subA) (fun _ => ?_)))
          clear hK K
          try simp only [Act.put, List.setIfInBounds_toArray, List.set_cons_zero, List.set_cons_succ]
        refine tk 12 ?_
        try simp only [Act.put, List.setIfInBounds_toArray, List.set_cons_zero, List.set_cons_succ]
        rotate_left
        refine rdc 10 (fun K hK => ?_) AllReadyH.nil
        focus
          refine rgAl S ?_; clear S; intro gr17 w9 z9 S; clear z9
          (first | refine hK.out _ _ (S.sub subA) (fun _ => ?_) | (go_wp2_with fail; refine hK.out _ _ (S.sub subA) (fun _ => ?_)))
          clear hK K
          try simp only [Act.put, List.setIfInBounds_toArray, List.set_cons_zero, List.set_cons_succ]
        refine rdy1 3 (fun K hK => ?_)
        focus
          go_simp; (skip; go_at_call 52; (with_reducible refine (toState_c _ o _ (FIN1.out _ S.frame) HM1.out).mono ?_); rintro e w9 ⟨ca1, Fa1, rfl, h9, n9, b9, f9⟩; replace S := S.new (aOwn tSt _ ca1 Fa1) h9 n9 b9 f9; clear h9 n9 b9 f9)
          (first | refine hK.out _ _ (S.sub subA) (fun _ => ?_) | (go_wp2_with fail; refine hK.out _ _ (S.sub subA) (fun _ => ?_)))
          clear hK K
          try simp only [Act.put, List.setIfInBounds_toArray, List.set_cons_zero, List.set_cons_succ]
        refine rdy1 5 (fun K hK => ?_)
        focus
          go_simp; (skip; go_at_call 57; (with_reducible refine (toPacket_l _ p (OK2.out)).mono ?_); rintro e w9 ⟨rfl, f9⟩; replace S := S.fr f9; clear f9)
          (first | refine hK.out _ _ (S.sub subA) (fun _ => ?_) | (go_wp2_with fail; refine hK.out _ _ (S.sub subA) (fun _ => ?_)))
          clear hK K
          try simp only [Act.put, List.setIfInBounds_toArray, List.set_cons_zero, List.set_cons_succ]
        refine rdy1 6 (fun K hK => ?_)
        focus
          go_simp; (skip; go_at_call 58; (with_reducible refine (RelayGet_e _ s o _ _ (by first | exact S.rd memA | exact S.rdIn memA) (by first | exact S.rd memA | exact S.rdIn memA) p HR.out).mono ?_); rintro e w9 ⟨ca2, Fa2, rfl, h9, n9, b9, f9⟩; replace S := S.new (aOwn tCh _ ca2 Fa2) h9 n9 b9 f9; clear h9 n9 b9 f9)
          (first | refine hK.out _ _ (S.sub subA) (fun _ => ?_) | (go_wp2_with fail; refine hK.out _ _ (S.sub subA) (fun _ => ?_)))
          clear hK K
          try simp only [Act.put, List.setIfInBounds_toArray, List.set_cons_zero, List.set_cons_succ]
        refine tk 7 ?_
        try simp only [Act.put, List.setIfInBounds_toArray, List.set_cons_zero, List.set_cons_succ]
        refine tk 8 ?_
        try simp only [Act.put, List.setIfInBounds_toArray, List.set_cons_zero, List.set_cons_succ]
        refine tk 9 ?_
        try simp only [Act.put, List.setIfInBounds_toArray, List.set_cons_zero, List.set_cons_succ]
        refine rdy1 11 (fun K hK => ?_)
        focus
          (first | refine rgS1 S ?_ | refine rgSt S ?_ | refine rgSp S ?_); clear S; intro w9 S
          (first | refine hK.out _ _ (S.sub subA) (fun _ => ?_) | (go_wp2_with fail; refine hK.out _ _ (S.sub subA) (fun _ => ?_)))
          clear hK K
          try simp only [Act.put, List.setIfInBounds_toArray, List.set_cons_zero, List.set_cons_succ]
        refine tk 12 ?_
        try simp only [Act.put, List.setIfInBounds_toArray, List.set_cons_zero, List.set_cons_succ]
        rotate_left
        refine rdc 10 (fun K hK => ?_) AllReadyH.nil
        focus
          refine rgAl S ?_; clear S; intro gr17 w9 z9 S; clear z9
          (first | refine hK.out _ _ (S.sub subA) (fun _ => ?_) | (go_wp2_with fail; refine hK.out _ _ (S.sub subA) (fun _ => ?_)))
          clear hK K
          try simp only [Act.put, List.setIfInBounds_toArray, List.set_cons_zero, List.set_cons_succ]
        refine rdy1 1 (fun K hK => ?_)
        focus
          go_simp; (skip; go_at_call 34; (with_reducible refine (toChain_c _ s _ (FIN0.out _ S.frame) HM0.out).mono ?_); rintro e w9 ⟨ca0, Fa0, rfl, h9, n9, b9, f9⟩; replace S := S.new (aOwn tCh _ ca0 Fa0) h9 n9 b9 f9; clear h9 n9 b9 f9)
          (first | refine hK.out _ _ (S.sub subA) (fun _ => ?_) | (go_wp2_with fail; refine hK.out _ _ (S.sub subA) (fun _ => ?_)))
          clear hK K
          try simp only [Act.put, List.setIfInBounds_toArray, List.set_cons_zero, List.set_cons_succ]
        refine rdy1 3 (fun K hK => ?_)
        focus
          go_simp; (skip; go_at_call 52; (with_reducible refine (toState_c _ o _ (FIN1.out _ S.frame) HM1.out).mono ?_); rintro e w9 ⟨ca1, Fa1, rfl, h9, n9, b9, f9⟩; replace S := S.new (aOwn tSt _ ca1 Fa1) h9 n9 b9 f9; clear h9 n9 b9 f9)
          (first | refine hK.out _ _ (S.sub subA) (fun _ => ?_) | (go_wp2_with fail; refine hK.out _ _ (S.sub subA) (fun _ => ?_)))
          clear hK K
          try simp only [Act.put, List.setIfInBounds_toArray, List.set_cons_zero, List.set_cons_succ]
        refine rdy1 5 (fun K hK => ?_)
        focus
          go_simp; (skip; go_at_call 57; (with_reducible refine (toPacket_l _ p (OK2.out)).mono ?_); rintro e w9 ⟨rfl, f9⟩; replace S := S.fr f9; clear f9)
          (first | refine hK.out _ _ (S.sub subA) (fun _ => ?_) | (go_wp2_with fail; refine hK.out _ _ (S.sub subA) (fun _ => ?_)))
          clear hK K
          try simp only [Act.put, List.setIfInBounds_toArray, List.set_cons_zero, List.set_cons_succ]
        refine rdy1 6 (fun K hK => ?_)
        focus
          go_simp; (skip; go_at_call 58; (with_reducible refine (RelayGet_e _ s o _ _ (by first | exact S.rd memA | exact S.rdIn memA) (by first | exact S.rd memA | exact S.rdIn memA) p HR.out).mono ?_); rintro e w9 ⟨ca2, Fa2, rfl, h9, n9, b9, f9⟩; replace S := S.new (aOwn tCh _ ca2 Fa2) h9 n9 b9 f9; clear h9 n9 b9 f9)
          (first | refine hK.out _ _ (S.sub subA) (fun _ => ?_) | (go_wp2_with fail; refine hK.out _ _ (S.sub subA) (fun _ => ?_)))
          clear hK K
          try simp only [Act.put, List.setIfInBounds_toArray, List.set_cons_zero, List.set_cons_succ]
        refine tk 7 ?_
        try simp only [Act.put, List.setIfInBounds_toArray, List.set_cons_zero, List.set_cons_succ]
        refine tk 8 ?_
        try simp only [Act.put, List.setIfInBounds_toArray, List.set_cons_zero, List.set_cons_succ]
        refine tk 9 ?_
        try simp only [Act.put, List.setIfInBounds_toArray, List.set_cons_zero, List.set_cons_succ]
        refine rdy1 11 (fun K hK => ?_)
        focus
          (first | refine rgS1 S ?_ | refine rgSt S ?_ | refine rgSp S ?_); clear S; intro w9 S
          (first | refine hK.out _ _ (S.sub subA) (fun _ => ?_) | (go_wp2_with fail; refine hK.out _ _ (S.sub subA) (fun _ => ?_)))
          clear hK K
          try simp only [Act.put, List.setIfInBounds_toArray, List.set_cons_zero, List.set_cons_succ]
        refine tk 12 ?_
        try simp only [Act.put, List.setIfInBounds_toArray, List.set_cons_zero, List.set_cons_succ]
        rotate_left
        all_goals
          refine wpAnyH_done (by kernel_rfl) ?_ _
          refine NoPanic.normal ?_
          replace S := S.rest (a := aOwn tCh s ca0 Fa0) delA
          replace S := S.rest (a := aOwn tSt o ca1 Fa1) delA
          replace S := S.pull (a := aBox gr17 _ _ _) delA
          replace S := S.pull (a := aOwn tCh x ca2 Fa2) delA
          revert S
          revert w9
          revert Fa2
          revert ca2
          revert ca1
          revert ca0
          revert gr17
          exact H
      intro gr17 ca0 ca1 ca2 Fa2 w9 _ S
      go_wp2_with (first | (go_at_call 24; (with_reducible refine (eqChain_c _ x _ _ (by first | exact S.rd memA | exact S.rdIn memA) (by first | exact S.rd memA | exact S.rdIn memA)).mono ?_); rintro e w9 ⟨rfl, f9⟩; replace S := S.fr f9; clear f9) | (go_at_call 26; (with_reducible refine (heldChain_c _ x _ 1 (by first | exact S.rd memA | exact S.rdIn memA) HX.out (by omega) (by omega)).mono ?_); rintro e w9 ⟨rfl, f9⟩; replace S := S.fr f9; clear f9) | ((with_reducible refine gate_box rfl ?_); refine aBx S ?_; clear S; intro g9 w9 z9 S) | ((with_reducible refine gate_alloc rfl ?_); refine aAl S ?_; clear S; intro g9 w9 z9 S) | ((with_reducible refine gate_load rfl ?_); first | refine aLd S ?_ | refine aPt S ?_ | refine aL1 S ?_) | ((with_reducible refine gate_st rfl ?_); (first | refine aS1 S ?_ | refine aSt S ?_ | refine aSp S ?_); clear S; intro w9 S))
      go_ret
      exact ⟨rfl, S.frame⟩
    refine rdc 8 (fun K hK => ?_) AllReadyH.nil
    refine rgAl S ?_; clear S; intro g9 w9 z9 S
    (first | refine hK.out _ _ (S.sub subA) (fun _ => ?_) | (go_wp2_with fail; refine hK.out _ _ (S.sub subA) (fun _ => ?_)))
    clear hK K
    try simp only [Act.put, List.setIfInBounds_toArray, List.set_cons_zero, List.set_cons_succ]
    refine rdy1 4 (fun K hK => ?_)
    go_simp; (skip; go_at_call 58; (with_reducible refine (RelayGet_e _ s o _ _ (by first | exact S.rd memA | exact S.rdIn memA) (by first | exact S.rd memA | exact S.rdIn memA) p HR.out).mono ?_); rintro e w9 ⟨cs9, F9, rfl, h9, n9, b9, f9⟩; replace S := S.new (aOwn tCh _ cs9 F9) h9 n9 b9 f9; clear h9 n9 b9 f9)
    (first | refine hK.out _ _ (S.sub subA) (fun _ => ?_) | (go_wp2_with fail; refine hK.out _ _ (S.sub subA) (fun _ => ?_)))
    clear hK K
    try simp only [Act.put, List.setIfInBounds_toArray, List.set_cons_zero, List.set_cons_succ]
    refine tk 5 ?_
    try simp only [Act.put, List.setIfInBounds_toArray, List.set_cons_zero, List.set_cons_succ]
    refine tk 6 ?_
    try simp only [Act.put, List.setIfInBounds_toArray, List.set_cons_zero, List.set_cons_succ]
    refine tk 7 ?_
    try simp only [Act.put, List.setIfInBounds_toArray, List.set_cons_zero, List.set_cons_succ]
    refine rdy1 9 (fun K hK => ?_)
    (first | refine rgS1 S ?_ | refine rgSt S ?_ | refine rgSp S ?_); clear S; intro w9 S
    (first | refine hK.out _ _ (S.sub subA) (fun _ => ?_) | (go_wp2_with fail; refine hK.out _ _ (S.sub subA) (fun _ => ?_)))
    clear hK K
    try simp only [Act.put, List.setIfInBounds_toArray, List.set_cons_zero, List.set_cons_succ]
    refine tk 10 ?_
    try simp only [Act.put, List.setIfInBounds_toArray, List.set_cons_zero, List.set_cons_succ]
    refine wpAnyH_done (by kernel_rfl) ?_ _
    refine NoPanic.normal ?_
    go_wp2_with (first | (go_at_call 24; (with_reducible refine (eqChain_c _ x _ _ (by first | exact S.rd memA | exact S.rdIn memA) (by first | exact S.rd memA | exact S.rdIn memA)).mono ?_); rintro e w9 ⟨rfl, f9⟩; replace S := S.fr f9; clear f9) | ((with_reducible refine gate_box rfl ?_); refine aBx S ?_; clear S; intro g9 w9 z9 S) | ((with_reducible refine gate_alloc rfl ?_); refine aAl S ?_; clear S; intro g9 w9 z9 S) | ((with_reducible refine gate_load rfl ?_); first | refine aLd S ?_ | refine aPt S ?_ | refine aL1 S ?_) | ((with_reducible refine gate_st rfl ?_); (first | refine aS1 S ?_ | refine aSt S ?_ | refine aSp S ?_); clear S; intro w9 S))
    have S0 := S
    refine wp_region_noPanic ?_
    refine wp_region_held_drew (S := Sep _ _ _) (by kernel_rfl) S0.drew (fun _ => ?_)
    replace S := S.drew
    clear S0
    refine tk 0 ?_
    try simp only [Act.put, List.setIfInBounds_toArray, List.set_cons_zero, List.set_cons_succ]
    refine tk 1 ?_
    try simp only [Act.put, List.setIfInBounds_toArray, List.set_cons_zero, List.set_cons_succ]
    refine rdy1 2 (fun K hK => ?_)
    go_simp; (skip; go_at_call 34; (with_reducible refine (toChain_c _ s _ (FIN0.out _ S.frame) HM0.out).mono ?_); rintro e w9 ⟨cs9, F9, rfl, h9, n9, b9, f9⟩; replace S := S.new (aOwn tCh _ cs9 F9) h9 n9 b9 f9; clear h9 n9 b9 f9)
    (first | refine hK.out _ _ (S.sub subA) (fun _ => ?_) | (go_wp2_with fail; refine hK.out _ _ (S.sub subA) (fun _ => ?_)))
    clear hK K
    try simp only [Act.put, List.setIfInBounds_toArray, List.set_cons_zero, List.set_cons_succ]
    refine rdy1 3 (fun K hK => ?_)
    go_simp; (skip; go_at_call 24; (with_reducible refine (eqChain_c _ s _ _ (by first | exact S.rd memA | exact S.rdIn memA) (by first | exact S.rd memA | exact S.rdIn memA)).mono ?_); rintro e w9 ⟨rfl, f9⟩; replace S := S.fr f9; clear f9)
    (first | refine hK.out _ _ (S.sub subA) (fun _ => ?_) | (go_wp2_with fail; refine hK.out _ _ (S.sub subA) (fun _ => ?_)))
    clear hK K
    try simp only [Act.put, List.setIfInBounds_toArray, List.set_cons_zero, List.set_cons_succ]
    refine tk 4 ?_
    try simp only [Act.put, List.setIfInBounds_toArray, List.set_cons_zero, List.set_cons_succ]
    refine wpAnyH_done (by kernel_rfl) ?_ _
    refine NoPanic.normal ?_
    go_wp2_with (first | ((with_reducible refine gate_box rfl ?_); refine aBx S ?_; clear S; intro g9 w9 z9 S) | ((with_reducible refine gate_alloc rfl ?_); refine aAl S ?_; clear S; intro g9 w9 z9 S) | ((with_reducible refine gate_load rfl ?_); first | refine aLd S ?_ | refine aPt S ?_ | refine aL1 S ?_) | ((with_reducible refine gate_st rfl ?_); (first | refine aS1 S ?_ | refine aSt S ?_ | refine aSp S ?_); clear S; intro w9 S))
    have S0 := S
    refine wp_region_noPanic ?_
    refine wp_region_held_drew (S := Sep _ _ _) (by kernel_rfl) S0.drew (fun _ => ?_)
    replace S := S.drew
    clear S0
    refine tk 0 ?_
    try simp only [Act.put, List.setIfInBounds_toArray, List.set_cons_zero, List.set_cons_succ]
    refine tk 1 ?_
    try simp only [Act.put, List.setIfInBounds_toArray, List.set_cons_zero, List.set_cons_succ]
    refine rdy1 2 (fun K hK => ?_)
    go_simp; (skip; go_at_call 52; (with_reducible refine (toState_c _ o _ (FIN1.out _ S.frame) HM1.out).mono ?_); rintro e w9 ⟨cs9, F9, rfl, h9, n9, b9, f9⟩; replace S := S.new (aOwn tSt _ cs9 F9) h9 n9 b9 f9; clear h9 n9 b9 f9)
    (first | refine hK.out _ _ (S.sub subA) (fun _ => ?_) | (go_wp2_with fail; refine hK.out _ _ (S.sub subA) (fun _ => ?_)))
    clear hK K
    try simp only [Act.put, List.setIfInBounds_toArray, List.set_cons_zero, List.set_cons_succ]
    refine rdy1 3 (fun K hK => ?_)
    go_simp; (skip; go_at_call 43; (with_reducible refine (eqState_c _ o _ _ (by first | exact S.rd memA | exact S.rdIn memA) (by first | exact S.rd memA | exact S.rdIn memA)).mono ?_); rintro e w9 ⟨rfl, f9⟩; replace S := S.fr f9; clear f9)
    (first | refine hK.out _ _ (S.sub subA) (fun _ => ?_) | (go_wp2_with fail; refine hK.out _ _ (S.sub subA) (fun _ => ?_)))
    clear hK K
    try simp only [Act.put, List.setIfInBounds_toArray, List.set_cons_zero, List.set_cons_succ]
    refine tk 4 ?_
    try simp only [Act.put, List.setIfInBounds_toArray, List.set_cons_zero, List.set_cons_succ]
    refine wpAnyH_done (by kernel_rfl) ?_ _
    refine NoPanic.normal ?_
    go_wp2_with (first | (go_at_call 25; (with_reducible refine (markChain_b _ s _ _ (1) (cntCh_past HM0.out) (S.both memA) (by omega) (by omega)).mono ?_); rintro e w9 ⟨rfl, h9, c9⟩; replace S := S.putOwn putA h9 c9; clear h9 c9) | (go_at_call 44; (with_reducible refine (markState_b _ o _ _ (1 + (cntMCh s : Int)) (S.both memA) (by omega) (by omega)).mono ?_); rintro e w9 ⟨rfl, h9, c9⟩; replace S := S.putOwn putA h9 c9; clear h9 c9) | (go_at_call 24; (with_reducible refine (eqChain_c _ x _ _ (by first | exact S.rd memA | exact S.rdIn memA) (by first | exact S.rd memA | exact S.rdIn memA)).mono ?_); rintro e w9 ⟨rfl, f9⟩; replace S := S.fr f9; clear f9) | (go_at_call 25; (with_reducible refine (markChain_b _ x _ _ (1) (smallCh_past HX.out) (S.both memA) (by omega) (by omega)).mono ?_); rintro e w9 ⟨rfl, h9, c9⟩; replace S := S.putOwn putA h9 c9; clear h9 c9) | (go_at_call 26; (with_reducible refine (heldChain_c _ x _ 1 (by first | exact S.rd memA | exact S.rdIn memA) HX.out (by omega) (by omega)).mono ?_); rintro e w9 ⟨rfl, f9⟩; replace S := S.fr f9; clear f9) | ((with_reducible refine gate_box rfl ?_); refine aBx S ?_; clear S; intro g9 w9 z9 S) | ((with_reducible refine gate_alloc rfl ?_); refine aAl S ?_; clear S; intro g9 w9 z9 S) | ((with_reducible refine gate_load rfl ?_); first | refine aLd S ?_ | refine aPt S ?_ | refine aL1 S ?_) | ((with_reducible refine gate_st rfl ?_); (first | refine aS1 S ?_ | refine aSt S ?_ | refine aSp S ?_); clear S; intro w9 S))
    apply cutT
    · intro H
      have S0 := S
      refine wp_region_noPanic ?_
      refine wp_region_held_drew (S := Sep _ _ _) (by kernel_rfl) S0.drew (fun _ => ?_)
      replace S := S.drew
      clear S0
      refine tk 0 ?_
      try simp only [Act.put, List.setIfInBounds_toArray, List.set_cons_zero, List.set_cons_succ]
      refine tk 2 ?_
      try simp only [Act.put, List.setIfInBounds_toArray, List.set_cons_zero, List.set_cons_succ]
      refine tk 4 ?_
      try simp only [Act.put, List.setIfInBounds_toArray, List.set_cons_zero, List.set_cons_succ]
      refine rdys [1, 10] ?_
      refine rdc 1 (fun K hK => ?_) ?_
      focus
        go_simp; (skip; go_at_call 34; (with_reducible refine (toChain_c _ s _ (FIN0.out _ S.frame) HM0.out).mono ?_); rintro e w9 ⟨ca0, Fa0, rfl, h9, n9, b9, f9⟩; replace S := S.new (aOwn tCh _ ca0 Fa0) h9 n9 b9 f9; clear h9 n9 b9 f9)
        (first | refine hK.out _ _ (S.sub subA) (fun _ => ?_) | (go_wp2_with fail; refine hK.out _ _ (S.sub subA) (fun _ => ?_)))
        clear hK K
        try simp only [Act.put, List.setIfInBounds_toArray, List.set_cons_zero, List.set_cons_succ]
      refine rdys [3, 10] ?_
      refine rdc 3 (fun K hK => ?_) ?_
      focus
        go_simp; (skip; go_at_call 52; (with_reducible refine (toState_c _ o _ (FIN1.out _ S.frame) HM1.out).mono ?_); rintro e w9 ⟨ca1, Fa1, rfl, h9, n9, b9, f9⟩; replace S := S.new (aOwn tSt _ ca1 Fa1) h9 n9 b9 f9; clear h9 n9 b9 f9)
        (first | refine hK.out _ _ (S.sub subA) (fun _ => ?_) | (go_wp2_with fail; refine hK.out _ _ (S.sub subA) (fun _ => ?_)))
        clear hK K
        try simp only [Act.put, List.setIfInBounds_toArray, List.set_cons_zero, List.set_cons_succ]
      refine rdys [5, 10] ?_
      refine rdc 5 (fun K hK => ?_) ?_
      focus
        go_simp; (skip; go_at_call 57; (with_reducible refine (toPacket_l _ p (OK2.out)).mono ?_); rintro e w9 ⟨rfl, f9⟩; replace S := S.fr f9; clear f9)
        (first | refine hK.out _ _ (S.sub subA) (fun _ => ?_) | (go_wp2_with fail; refine hK.out _ _ (S.sub subA) (fun _ => ?_)))
        clear hK K
        try simp only [Act.put, List.setIfInBounds_toArray, List.set_cons_zero, List.set_cons_succ]
      refine rdys [6, 10] ?_
      refine rdc 6 (fun K hK => ?_) ?_
      focus
        go_simp; (skip; go_at_call 58; (with_reducible refine (RelayGet_e _ s o _ _ (by first | exact S.rd memA | exact S.rdIn memA) (by first | exact S.rd memA | exact S.rdIn memA) p HR.out).mono ?_); rintro e w9 ⟨ca2, Fa2, rfl, h9, n9, b9, f9⟩; replace S := S.new (aOwn tCh _ ca2 Fa2) h9 n9 b9 f9; clear h9 n9 b9 f9)
        (first | refine hK.out _ _ (S.sub subA) (fun _ => ?_) | (go_wp2_with fail; refine hK.out _ _ (S.sub subA) (fun _ => ?_)))
        clear hK K
        try simp only [Act.put, List.setIfInBounds_toArray, List.set_cons_zero, List.set_cons_succ]
      refine tk 7 ?_
      try simp only [Act.put, List.setIfInBounds_toArray, List.set_cons_zero, List.set_cons_succ]
      refine tk 8 ?_
      try simp only [Act.put, List.setIfInBounds_toArray, List.set_cons_zero, List.set_cons_succ]
      refine tk 9 ?_
      try simp only [Act.put, List.setIfInBounds_toArray, List.set_cons_zero, List.set_cons_succ]
      refine rdy1 10 (fun K hK => ?_)
      focus
        refine rgAl S ?_; clear S; intro gr17 w9 z9 S; clear z9
        (first | refine hK.out _ _ (S.sub subA) (fun _ => ?_) | (go_wp2_with fail; refine hK.out _ _ (S.sub subA) (fun _ => ?_)))
        clear hK K
        try simp only [Act.put, List.setIfInBounds_toArray, List.set_cons_zero, List.set_cons_succ]
      refine rdy1 11 (fun K hK => ?_)
      focus
        (first | refine rgS1 S ?_ | refine rgSt S ?_ | refine rgSp S ?_); clear S; intro w9 S
        (first | refine hK.out _ _ (S.sub subA) (fun _ => ?_) | (go_wp2_with fail; refine hK.out _ _ (S.sub subA) (fun _ => ?_)))
        clear hK K
        try simp only [Act.put, List.setIfInBounds_toArray, List.set_cons_zero, List.set_cons_succ]
      refine tk 12 ?_
      try simp only [Act.put, List.setIfInBounds_toArray, List.set_cons_zero, List.set_cons_succ]
      rotate_left
      refine rdc 10 (fun K hK => ?_) AllReadyH.nil
      focus
        refine rgAl S ?_; clear S; intro gr17 w9 z9 S; clear z9
        (first | refine hK.out _ _ (S.sub subA) (fun _ => ?_) | (go_wp2_with fail; refine hK.out _ _ (S.sub subA) (fun _ => ?_)))
        clear hK K
        try simp only [Act.put, List.setIfInBounds_toArray, List.set_cons_zero, List.set_cons_succ]
      refine rdy1 6 (fun K hK => ?_)
      focus
        go_simp; (skip; go_at_call 58; (with_reducible refine (RelayGet_e _ s o _ _ (by first | exact S.rd memA | exact S.rdIn memA) (by first | exact S.rd memA | exact S.rdIn memA) p HR.out).mono ?_); rintro e w9 ⟨ca2, Fa2, rfl, h9, n9, b9, f9⟩; replace S := S.new (aOwn tCh _ ca2 Fa2) h9 n9 b9 f9; clear h9 n9 b9 f9)
        (first | refine hK.out _ _ (S.sub subA) (fun _ => ?_) | (go_wp2_with fail; refine hK.out _ _ (S.sub subA) (fun _ => ?_)))
        clear hK K
        try simp only [Act.put, List.setIfInBounds_toArray, List.set_cons_zero, List.set_cons_succ]
      refine tk 7 ?_
      try simp only [Act.put, List.setIfInBounds_toArray, List.set_cons_zero, List.set_cons_succ]
      refine tk 8 ?_
      try simp only [Act.put, List.setIfInBounds_toArray, List.set_cons_zero, List.set_cons_succ]
      refine tk 9 ?_
      try simp only [Act.put, List.setIfInBounds_toArray, List.set_cons_zero, List.set_cons_succ]
      refine rdy1 11 (fun K hK => ?_)
      focus
        (first | refine rgS1 S ?_ | refine rgSt S ?_ | refine rgSp S ?_); clear S; intro w9 S
        (first | refine hK.out _ _ (S.sub subA) (fun _ => ?_) | (go_wp2_with fail; refine hK.out _ _ (S.sub subA) (fun _ => ?_)))
        clear hK K
        try simp only [Act.put, List.setIfInBounds_toArray, List.set_cons_zero, List.set_cons_succ]
      refine tk 12 ?_
      try simp only [Act.put, List.setIfInBounds_toArray, List.set_cons_zero, List.set_cons_succ]
      rotate_left
      refine rdc 10 (fun K hK => ?_) AllReadyH.nil
      focus
        refine rgAl S ?_; clear S; intro gr17 w9 z9 S; clear z9
        (first | refine hK.out _ _ (S.sub subA) (fun _ => ?_) | (go_wp2_with fail; refine hK.out _ _ (S.sub subA) (fun _ => ?_)))
        clear hK K
        try simp only [Act.put, List.setIfInBounds_toArray, List.set_cons_zero, List.set_cons_succ]
      refine rdy1 5 (fun K hK => ?_)
      focus
        go_simp; (skip; go_at_call 57; (with_reducible refine (toPacket_l _ p (OK2.out)).mono ?_); rintro e w9 ⟨rfl, f9⟩; replace S := S.fr f9; clear f9)
        (first | refine hK.out _ _ (S.sub subA) (fun _ => ?_) | (go_wp2_with fail; refine hK.out _ _ (S.sub subA) (fun _ => ?_)))
        clear hK K
        try simp only [Act.put, List.setIfInBounds_toArray, List.set_cons_zero, List.set_cons_succ]
      refine rdy1 6 (fun K hK => ?_)
      focus
        go_simp; (skip; go_at_call 58; (with_reducible refine (RelayGet_e _ s o _ _ (by first | exact S.rd memA | exact S.rdIn memA) (by first | exact S.rd memA | exact S.rdIn memA) p HR.out).mono ?_); rintro e w9 ⟨ca2, Fa2, rfl, h9, n9, b9, f9⟩; replace S := S.new (aOwn tCh _ ca2 Fa2) h9 n9 b9 f9; clear h9 n9 b9 f9)
        (first | refine hK.out _ _ (S.sub subA) (fun _ => ?_) | (go_wp2_with fail; refine hK.out _ _ (S.sub subA) (fun _ => ?_)))
        clear hK K
        try simp only [Act.put, List.setIfInBounds_toArray, List.set_cons_zero, List.set_cons_succ]
      refine tk 7 ?_
      try simp only [Act.put, List.setIfInBounds_toArray, List.set_cons_zero, List.set_cons_succ]
      refine tk 8 ?_
      try simp only [Act.put, List.setIfInBounds_toArray, List.set_cons_zero, List.set_cons_succ]
      refine tk 9 ?_
      try simp only [Act.put, List.setIfInBounds_toArray, List.set_cons_zero, List.set_cons_succ]
      refine rdy1 11 (fun K hK => ?_)
      focus
        (first | refine rgS1 S ?_ | refine rgSt S ?_ | refine rgSp S ?_); clear S; intro w9 S
        (first | refine hK.out _ _ (S.sub subA) (fun _ => ?_) | (go_wp2_with fail; refine hK.out _ _ (S.sub subA) (fun _ => ?_)))
        clear hK K
        try simp only [Act.put, List.setIfInBounds_toArray, List.set_cons_zero, List.set_cons_succ]
      refine tk 12 ?_
      try simp only [Act.put, List.setIfInBounds_toArray, List.set_cons_zero, List.set_cons_succ]
      rotate_left
      refine rdc 10 (fun K hK => ?_) AllReadyH.nil
      focus
        refine rgAl S ?_; clear S; intro gr17 w9 z9 S; clear z9
        (first | refine hK.out _ _ (S.sub subA) (fun _ => ?_) | (go_wp2_with fail; refine hK.out _ _ (S.sub subA) (fun _ => ?_)))
        clear hK K
        try simp only [Act.put, List.setIfInBounds_toArray, List.set_cons_zero, List.set_cons_succ]
      refine rdy1 3 (fun K hK => ?_)
      focus
        go_simp; (skip; go_at_call 52; (with_reducible refine (toState_c _ o _ (FIN1.out _ S.frame) HM1.out).mono ?_); rintro e w9 ⟨ca1, Fa1, rfl, h9, n9, b9, f9⟩; replace S := S.new (aOwn tSt _ ca1 Fa1) h9 n9 b9 f9; clear h9 n9 b9 f9)
        (first | refine hK.out _ _ (S.sub subA) (fun _ => ?_) | (go_wp2_with fail; refine hK.out _ _ (S.sub subA) (fun _ => ?_)))
        clear hK K
        try simp only [Act.put, List.setIfInBounds_toArray, List.set_cons_zero, List.set_cons_succ]
      refine rdy1 5 (fun K hK => ?_)
      focus
        go_simp; (skip; go_at_call 57; (with_reducible refine (toPacket_l _ p (OK2.out)).mono ?_); rintro e w9 ⟨rfl, f9⟩; replace S := S.fr f9; clear f9)
        (first | refine hK.out _ _ (S.sub subA) (fun _ => ?_) | (go_wp2_with fail; refine hK.out _ _ (S.sub subA) (fun _ => ?_)))
        clear hK K
        try simp only [Act.put, List.setIfInBounds_toArray, List.set_cons_zero, List.set_cons_succ]
      refine rdy1 6 (fun K hK => ?_)
      focus
        go_simp; (skip; go_at_call 58; (with_reducible refine (RelayGet_e _ s o _ _ (by first | exact S.rd memA | exact S.rdIn memA) (by first | exact S.rd memA | exact S.rdIn memA) p HR.out).mono ?_); rintro e w9 ⟨ca2, Fa2, rfl, h9, n9, b9, f9⟩; replace S := S.new (aOwn tCh _ ca2 Fa2) h9 n9 b9 f9; clear h9 n9 b9 f9)
        (first | refine hK.out _ _ (S.sub subA) (fun _ => ?_) | (go_wp2_with fail; refine hK.out _ _ (S.sub subA) (fun _ => ?_)))
        clear hK K
        try simp only [Act.put, List.setIfInBounds_toArray, List.set_cons_zero, List.set_cons_succ]
      refine tk 7 ?_
      try simp only [Act.put, List.setIfInBounds_toArray, List.set_cons_zero, List.set_cons_succ]
      refine tk 8 ?_
      try simp only [Act.put, List.setIfInBounds_toArray, List.set_cons_zero, List.set_cons_succ]
      refine tk 9 ?_
      try simp only [Act.put, List.setIfInBounds_toArray, List.set_cons_zero, List.set_cons_succ]
      refine rdy1 11 (fun K hK => ?_)
      focus
        (first | refine rgS1 S ?_ | refine rgSt S ?_ | refine rgSp S ?_); clear S; intro w9 S
        (first | refine hK.out _ _ (S.sub subA) (fun _ => ?_) | (go_wp2_with fail; refine hK.out _ _ (S.sub subA) (fun _ => ?_)))
        clear hK K
        try simp only [Act.put, List.setIfInBounds_toArray, List.set_cons_zero, List.set_cons_succ]
      refine tk 12 ?_
      try simp only [Act.put, List.setIfInBounds_toArray, List.set_cons_zero, List.set_cons_succ]
      rotate_left
      refine rdc 10 (fun K hK => ?_) AllReadyH.nil
      focus
        refine rgAl S ?_; clear S; intro gr17 w9 z9 S; clear z9
        (first | refine hK.out _ _ (S.sub subA) (fun _ => ?_) | (go_wp2_with fail; refine hK.out _ _ (S.sub subA) (fun _ => ?_)))
        clear hK K
        try simp only [Act.put, List.setIfInBounds_toArray, List.set_cons_zero, List.set_cons_succ]
      refine rdy1 1 (fun K hK => ?_)
      focus
        go_simp; (skip; go_at_call 34; (with_reducible refine (toChain_c _ s _ (FIN0.out _ S.frame) HM0.out).mono ?_); rintro e w9 ⟨ca0, Fa0, rfl, h9, n9, b9, f9⟩; replace S := S.new (aOwn tCh _ ca0 Fa0) h9 n9 b9 f9; clear h9 n9 b9 f9)
        (first | refine hK.out _ _ (S.sub subA) (fun _ => ?_) | (go_wp2_with fail; refine hK.out _ _ (S.sub subA) (fun _ => ?_)))
        clear hK K
        try simp only [Act.put, List.setIfInBounds_toArray, List.set_cons_zero, List.set_cons_succ]
      refine rdy1 3 (fun K hK => ?_)
      focus
        go_simp; (skip; go_at_call 52; (with_reducible refine (toState_c _ o _ (FIN1.out _ S.frame) HM1.out).mono ?_); rintro e w9 ⟨ca1, Fa1, rfl, h9, n9, b9, f9⟩; replace S := S.new (aOwn tSt _ ca1 Fa1) h9 n9 b9 f9; clear h9 n9 b9 f9)
        (first | refine hK.out _ _ (S.sub subA) (fun _ => ?_) | (go_wp2_with fail; refine hK.out _ _ (S.sub subA) (fun _ => ?_)))
        clear hK K
        try simp only [Act.put, List.setIfInBounds_toArray, List.set_cons_zero, List.set_cons_succ]
      refine rdy1 5 (fun K hK => ?_)
      focus
        go_simp; (skip; go_at_call 57; (with_reducible refine (toPacket_l _ p (OK2.out)).mono ?_); rintro e w9 ⟨rfl, f9⟩; replace S := S.fr f9; clear f9)
        (first | refine hK.out _ _ (S.sub subA) (fun _ => ?_) | (go_wp2_with fail; refine hK.out _ _ (S.sub subA) (fun _ => ?_)))
        clear hK K
        try simp only [Act.put, List.setIfInBounds_toArray, List.set_cons_zero, List.set_cons_succ]
      refine rdy1 6 (fun K hK => ?_)
      focus
        go_simp; (skip; go_at_call 58; (with_reducible refine (RelayGet_e _ s o _ _ (by first | exact S.rd memA | exact S.rdIn memA) (by first | exact S.rd memA | exact S.rdIn memA) p HR.out).mono ?_); rintro e w9 ⟨ca2, Fa2, rfl, h9, n9, b9, f9⟩; replace S := S.new (aOwn tCh _ ca2 Fa2) h9 n9 b9 f9; clear h9 n9 b9 f9)
        (first | refine hK.out _ _ (S.sub subA) (fun _ => ?_) | (go_wp2_with fail; refine hK.out _ _ (S.sub subA) (fun _ => ?_)))
        clear hK K
        try simp only [Act.put, List.setIfInBounds_toArray, List.set_cons_zero, List.set_cons_succ]
      refine tk 7 ?_
      try simp only [Act.put, List.setIfInBounds_toArray, List.set_cons_zero, List.set_cons_succ]
      refine tk 8 ?_
      try simp only [Act.put, List.setIfInBounds_toArray, List.set_cons_zero, List.set_cons_succ]
      refine tk 9 ?_
      try simp only [Act.put, List.setIfInBounds_toArray, List.set_cons_zero, List.set_cons_succ]
      refine rdy1 11 (fun K hK => ?_)
      focus
        (first | refine rgS1 S ?_ | refine rgSt S ?_ | refine rgSp S ?_); clear S; intro w9 S
        (first | refine hK.out _ _ (S.sub subA) (fun _ => ?_) | (go_wp2_with fail; refine hK.out _ _ (S.sub subA) (fun _ => ?_)))
        clear hK K
        try simp only [Act.put, List.setIfInBounds_toArray, List.set_cons_zero, List.set_cons_succ]
      refine tk 12 ?_
      try simp only [Act.put, List.setIfInBounds_toArray, List.set_cons_zero, List.set_cons_succ]
      rotate_left
      all_goals
        refine wpAnyH_done (by kernel_rfl) ?_ _
        refine NoPanic.normal ?_
        replace S := S.rest (a := aOwn tCh s ca0 Fa0) delA
        replace S := S.rest (a := aOwn tSt o ca1 Fa1) delA
        replace S := S.pull (a := aBox gr17 _ _ _) delA
        replace S := S.pull (a := aOwn tCh x ca2 Fa2) delA
        revert S
        revert w9
        revert Fa2
        revert ca2
        revert ca1
        revert ca0
        revert gr17
        exact H
    intro gr17 ca0 ca1 ca2 Fa2 w9 _ S
    go_wp2_with (first | (go_at_call 24; (with_reducible refine (eqChain_c _ x _ _ (by first | exact S.rd memA | exact S.rdIn memA) (by first | exact S.rd memA | exact S.rdIn memA)).mono ?_); rintro e w9 ⟨rfl, f9⟩; replace S := S.fr f9; clear f9) | (go_at_call 26; (with_reducible refine (heldChain_c _ x _ 1 (by first | exact S.rd memA | exact S.rdIn memA) HX.out (by omega) (by omega)).mono ?_); rintro e w9 ⟨rfl, f9⟩; replace S := S.fr f9; clear f9) | ((with_reducible refine gate_box rfl ?_); refine aBx S ?_; clear S; intro g9 w9 z9 S) | ((with_reducible refine gate_alloc rfl ?_); refine aAl S ?_; clear S; intro g9 w9 z9 S) | ((with_reducible refine gate_load rfl ?_); first | refine aLd S ?_ | refine aPt S ?_ | refine aL1 S ?_) | ((with_reducible refine gate_st rfl ?_); (first | refine aS1 S ?_ | refine aSt S ?_ | refine aSp S ?_); clear S; intro w9 S))
    go_ret
    exact ⟨rfl, S.frame⟩
  refine rdc 8 (fun K hK => ?_) AllReadyH.nil
  refine rgAl S ?_; clear S; intro g9 w9 z9 S
  (first | refine hK.out _ _ (S.sub subA) (fun _ => ?_) | (go_wp2_with fail; refine hK.out _ _ (S.sub subA) (fun _ => ?_)))
  clear hK K
  try simp only [Act.put, List.setIfInBounds_toArray, List.set_cons_zero, List.set_cons_succ]
  refine rdy1 3 (fun K hK => ?_)
  go_simp; (skip; go_at_call 57; (with_reducible refine (toPacket_l _ p (OK2.out)).mono ?_); rintro e w9 ⟨rfl, f9⟩; replace S := S.fr f9; clear f9)
  (first | refine hK.out _ _ (S.sub subA) (fun _ => ?_) | (go_wp2_with fail; refine hK.out _ _ (S.sub subA) (fun _ => ?_)))
  clear hK K
  try simp only [Act.put, List.setIfInBounds_toArray, List.set_cons_zero, List.set_cons_succ]
  refine rdy1 4 (fun K hK => ?_)
  go_simp; (skip; go_at_call 58; (with_reducible refine (RelayGet_e _ s o _ _ (by first | exact S.rd memA | exact S.rdIn memA) (by first | exact S.rd memA | exact S.rdIn memA) p HR.out).mono ?_); rintro e w9 ⟨cs9, F9, rfl, h9, n9, b9, f9⟩; replace S := S.new (aOwn tCh _ cs9 F9) h9 n9 b9 f9; clear h9 n9 b9 f9)
  (first | refine hK.out _ _ (S.sub subA) (fun _ => ?_) | (go_wp2_with fail; refine hK.out _ _ (S.sub subA) (fun _ => ?_)))
  clear hK K
  try simp only [Act.put, List.setIfInBounds_toArray, List.set_cons_zero, List.set_cons_succ]
  refine tk 5 ?_
  try simp only [Act.put, List.setIfInBounds_toArray, List.set_cons_zero, List.set_cons_succ]
  refine tk 6 ?_
  try simp only [Act.put, List.setIfInBounds_toArray, List.set_cons_zero, List.set_cons_succ]
  refine tk 7 ?_
  try simp only [Act.put, List.setIfInBounds_toArray, List.set_cons_zero, List.set_cons_succ]
  refine rdy1 9 (fun K hK => ?_)
  (first | refine rgS1 S ?_ | refine rgSt S ?_ | refine rgSp S ?_); clear S; intro w9 S
  (first | refine hK.out _ _ (S.sub subA) (fun _ => ?_) | (go_wp2_with fail; refine hK.out _ _ (S.sub subA) (fun _ => ?_)))
  clear hK K
  try simp only [Act.put, List.setIfInBounds_toArray, List.set_cons_zero, List.set_cons_succ]
  refine tk 10 ?_
  try simp only [Act.put, List.setIfInBounds_toArray, List.set_cons_zero, List.set_cons_succ]
  refine wpAnyH_done (by kernel_rfl) ?_ _
  refine NoPanic.normal ?_
  go_wp2_with (first | (go_at_call 24; (with_reducible refine (eqChain_c _ x _ _ (by first | exact S.rd memA | exact S.rdIn memA) (by first | exact S.rd memA | exact S.rdIn memA)).mono ?_); rintro e w9 ⟨rfl, f9⟩; replace S := S.fr f9; clear f9) | ((with_reducible refine gate_box rfl ?_); refine aBx S ?_; clear S; intro g9 w9 z9 S) | ((with_reducible refine gate_alloc rfl ?_); refine aAl S ?_; clear S; intro g9 w9 z9 S) | ((with_reducible refine gate_load rfl ?_); first | refine aLd S ?_ | refine aPt S ?_ | refine aL1 S ?_) | ((with_reducible refine gate_st rfl ?_); (first | refine aS1 S ?_ | refine aSt S ?_ | refine aSp S ?_); clear S; intro w9 S))
  have S0 := S
  refine wp_region_noPanic ?_
  refine wp_region_held_drew (S := Sep _ _ _) (by kernel_rfl) S0.drew (fun _ => ?_)
  replace S := S.drew
  clear S0
  refine tk 0 ?_
  try simp only [Act.put, List.setIfInBounds_toArray, List.set_cons_zero, List.set_cons_succ]
  refine tk 1 ?_
  try simp only [Act.put, List.setIfInBounds_toArray, List.set_cons_zero, List.set_cons_succ]
  refine rdy1 2 (fun K hK => ?_)
  go_simp; (skip; go_at_call 34; (with_reducible refine (toChain_c _ s _ (FIN0.out _ S.frame) HM0.out).mono ?_); rintro e w9 ⟨cs9, F9, rfl, h9, n9, b9, f9⟩; replace S := S.new (aOwn tCh _ cs9 F9) h9 n9 b9 f9; clear h9 n9 b9 f9)
  (first | refine hK.out _ _ (S.sub subA) (fun _ => ?_) | (go_wp2_with fail; refine hK.out _ _ (S.sub subA) (fun _ => ?_)))
  clear hK K
  try simp only [Act.put, List.setIfInBounds_toArray, List.set_cons_zero, List.set_cons_succ]
  refine rdy1 3 (fun K hK => ?_)
  go_simp; (skip; go_at_call 24; (with_reducible refine (eqChain_c _ s _ _ (by first | exact S.rd memA | exact S.rdIn memA) (by first | exact S.rd memA | exact S.rdIn memA)).mono ?_); rintro e w9 ⟨rfl, f9⟩; replace S := S.fr f9; clear f9)
  (first | refine hK.out _ _ (S.sub subA) (fun _ => ?_) | (go_wp2_with fail; refine hK.out _ _ (S.sub subA) (fun _ => ?_)))
  clear hK K
  try simp only [Act.put, List.setIfInBounds_toArray, List.set_cons_zero, List.set_cons_succ]
  refine tk 4 ?_
  try simp only [Act.put, List.setIfInBounds_toArray, List.set_cons_zero, List.set_cons_succ]
  refine wpAnyH_done (by kernel_rfl) ?_ _
  refine NoPanic.normal ?_
  go_wp2_with (first | ((with_reducible refine gate_box rfl ?_); refine aBx S ?_; clear S; intro g9 w9 z9 S) | ((with_reducible refine gate_alloc rfl ?_); refine aAl S ?_; clear S; intro g9 w9 z9 S) | ((with_reducible refine gate_load rfl ?_); first | refine aLd S ?_ | refine aPt S ?_ | refine aL1 S ?_) | ((with_reducible refine gate_st rfl ?_); (first | refine aS1 S ?_ | refine aSt S ?_ | refine aSp S ?_); clear S; intro w9 S))
  have S0 := S
  refine wp_region_noPanic ?_
  refine wp_region_held_drew (S := Sep _ _ _) (by kernel_rfl) S0.drew (fun _ => ?_)
  replace S := S.drew
  clear S0
  refine tk 0 ?_
  try simp only [Act.put, List.setIfInBounds_toArray, List.set_cons_zero, List.set_cons_succ]
  refine tk 1 ?_
  try simp only [Act.put, List.setIfInBounds_toArray, List.set_cons_zero, List.set_cons_succ]
  refine rdy1 2 (fun K hK => ?_)
  go_simp; (skip; go_at_call 52; (with_reducible refine (toState_c _ o _ (FIN1.out _ S.frame) HM1.out).mono ?_); rintro e w9 ⟨cs9, F9, rfl, h9, n9, b9, f9⟩; replace S := S.new (aOwn tSt _ cs9 F9) h9 n9 b9 f9; clear h9 n9 b9 f9)
  (first | refine hK.out _ _ (S.sub subA) (fun _ => ?_) | (go_wp2_with fail; refine hK.out _ _ (S.sub subA) (fun _ => ?_)))
  clear hK K
  try simp only [Act.put, List.setIfInBounds_toArray, List.set_cons_zero, List.set_cons_succ]
  refine rdy1 3 (fun K hK => ?_)
  go_simp; (skip; go_at_call 43; (with_reducible refine (eqState_c _ o _ _ (by first | exact S.rd memA | exact S.rdIn memA) (by first | exact S.rd memA | exact S.rdIn memA)).mono ?_); rintro e w9 ⟨rfl, f9⟩; replace S := S.fr f9; clear f9)
  (first | refine hK.out _ _ (S.sub subA) (fun _ => ?_) | (go_wp2_with fail; refine hK.out _ _ (S.sub subA) (fun _ => ?_)))
  clear hK K
  try simp only [Act.put, List.setIfInBounds_toArray, List.set_cons_zero, List.set_cons_succ]
  refine tk 4 ?_
  try simp only [Act.put, List.setIfInBounds_toArray, List.set_cons_zero, List.set_cons_succ]
  refine wpAnyH_done (by kernel_rfl) ?_ _
  refine NoPanic.normal ?_
  go_wp2_with (first | (go_at_call 25; (with_reducible refine (markChain_b _ s _ _ (1) (cntCh_past HM0.out) (S.both memA) (by omega) (by omega)).mono ?_); rintro e w9 ⟨rfl, h9, c9⟩; replace S := S.putOwn putA h9 c9; clear h9 c9) | (go_at_call 44; (with_reducible refine (markState_b _ o _ _ (1 + (cntMCh s : Int)) (S.both memA) (by omega) (by omega)).mono ?_); rintro e w9 ⟨rfl, h9, c9⟩; replace S := S.putOwn putA h9 c9; clear h9 c9) | (go_at_call 24; (with_reducible refine (eqChain_c _ x _ _ (by first | exact S.rd memA | exact S.rdIn memA) (by first | exact S.rd memA | exact S.rdIn memA)).mono ?_); rintro e w9 ⟨rfl, f9⟩; replace S := S.fr f9; clear f9) | (go_at_call 25; (with_reducible refine (markChain_b _ x _ _ (1) (smallCh_past HX.out) (S.both memA) (by omega) (by omega)).mono ?_); rintro e w9 ⟨rfl, h9, c9⟩; replace S := S.putOwn putA h9 c9; clear h9 c9) | (go_at_call 26; (with_reducible refine (heldChain_c _ x _ 1 (by first | exact S.rd memA | exact S.rdIn memA) HX.out (by omega) (by omega)).mono ?_); rintro e w9 ⟨rfl, f9⟩; replace S := S.fr f9; clear f9) | ((with_reducible refine gate_box rfl ?_); refine aBx S ?_; clear S; intro g9 w9 z9 S) | ((with_reducible refine gate_alloc rfl ?_); refine aAl S ?_; clear S; intro g9 w9 z9 S) | ((with_reducible refine gate_load rfl ?_); first | refine aLd S ?_ | refine aPt S ?_ | refine aL1 S ?_) | ((with_reducible refine gate_st rfl ?_); (first | refine aS1 S ?_ | refine aSt S ?_ | refine aSp S ?_); clear S; intro w9 S))
  apply cutT
  · intro H
    have S0 := S
    refine wp_region_noPanic ?_
    refine wp_region_held_drew (S := Sep _ _ _) (by kernel_rfl) S0.drew (fun _ => ?_)
    replace S := S.drew
    clear S0
    refine tk 0 ?_
    try simp only [Act.put, List.setIfInBounds_toArray, List.set_cons_zero, List.set_cons_succ]
    refine tk 2 ?_
    try simp only [Act.put, List.setIfInBounds_toArray, List.set_cons_zero, List.set_cons_succ]
    refine tk 4 ?_
    try simp only [Act.put, List.setIfInBounds_toArray, List.set_cons_zero, List.set_cons_succ]
    refine rdys [1, 10] ?_
    refine rdc 1 (fun K hK => ?_) ?_
    focus
      go_simp; (skip; go_at_call 34; (with_reducible refine (toChain_c _ s _ (FIN0.out _ S.frame) HM0.out).mono ?_); rintro e w9 ⟨ca0, Fa0, rfl, h9, n9, b9, f9⟩; replace S := S.new (aOwn tCh _ ca0 Fa0) h9 n9 b9 f9; clear h9 n9 b9 f9)
      (first | refine hK.out _ _ (S.sub subA) (fun _ => ?_) | (go_wp2_with fail; refine hK.out _ _ (S.sub subA) (fun _ => ?_)))
      clear hK K
      try simp only [Act.put, List.setIfInBounds_toArray, List.set_cons_zero, List.set_cons_succ]
    refine rdys [3, 10] ?_
    refine rdc 3 (fun K hK => ?_) ?_
    focus
      go_simp; (skip; go_at_call 52; (with_reducible refine (toState_c _ o _ (FIN1.out _ S.frame) HM1.out).mono ?_); rintro e w9 ⟨ca1, Fa1, rfl, h9, n9, b9, f9⟩; replace S := S.new (aOwn tSt _ ca1 Fa1) h9 n9 b9 f9; clear h9 n9 b9 f9)
      (first | refine hK.out _ _ (S.sub subA) (fun _ => ?_) | (go_wp2_with fail; refine hK.out _ _ (S.sub subA) (fun _ => ?_)))
      clear hK K
      try simp only [Act.put, List.setIfInBounds_toArray, List.set_cons_zero, List.set_cons_succ]
    refine rdys [5, 10] ?_
    refine rdc 5 (fun K hK => ?_) ?_
    focus
      go_simp; (skip; go_at_call 57; (with_reducible refine (toPacket_l _ p (OK2.out)).mono ?_); rintro e w9 ⟨rfl, f9⟩; replace S := S.fr f9; clear f9)
      (first | refine hK.out _ _ (S.sub subA) (fun _ => ?_) | (go_wp2_with fail; refine hK.out _ _ (S.sub subA) (fun _ => ?_)))
      clear hK K
      try simp only [Act.put, List.setIfInBounds_toArray, List.set_cons_zero, List.set_cons_succ]
    refine rdys [6, 10] ?_
    refine rdc 6 (fun K hK => ?_) ?_
    focus
      go_simp; (skip; go_at_call 58; (with_reducible refine (RelayGet_e _ s o _ _ (by first | exact S.rd memA | exact S.rdIn memA) (by first | exact S.rd memA | exact S.rdIn memA) p HR.out).mono ?_); rintro e w9 ⟨ca2, Fa2, rfl, h9, n9, b9, f9⟩; replace S := S.new (aOwn tCh _ ca2 Fa2) h9 n9 b9 f9; clear h9 n9 b9 f9)
      (first | refine hK.out _ _ (S.sub subA) (fun _ => ?_) | (go_wp2_with fail; refine hK.out _ _ (S.sub subA) (fun _ => ?_)))
      clear hK K
      try simp only [Act.put, List.setIfInBounds_toArray, List.set_cons_zero, List.set_cons_succ]
    refine tk 7 ?_
    try simp only [Act.put, List.setIfInBounds_toArray, List.set_cons_zero, List.set_cons_succ]
    refine tk 8 ?_
    try simp only [Act.put, List.setIfInBounds_toArray, List.set_cons_zero, List.set_cons_succ]
    refine tk 9 ?_
    try simp only [Act.put, List.setIfInBounds_toArray, List.set_cons_zero, List.set_cons_succ]
    refine rdy1 10 (fun K hK => ?_)
    focus
      refine rgAl S ?_; clear S; intro gr17 w9 z9 S; clear z9
      (first | refine hK.out _ _ (S.sub subA) (fun _ => ?_) | (go_wp2_with fail; refine hK.out _ _ (S.sub subA) (fun _ => ?_)))
      clear hK K
      try simp only [Act.put, List.setIfInBounds_toArray, List.set_cons_zero, List.set_cons_succ]
    refine rdy1 11 (fun K hK => ?_)
    focus
      (first | refine rgS1 S ?_ | refine rgSt S ?_ | refine rgSp S ?_); clear S; intro w9 S
      (first | refine hK.out _ _ (S.sub subA) (fun _ => ?_) | (go_wp2_with fail; refine hK.out _ _ (S.sub subA) (fun _ => ?_)))
      clear hK K
      try simp only [Act.put, List.setIfInBounds_toArray, List.set_cons_zero, List.set_cons_succ]
    refine tk 12 ?_
    try simp only [Act.put, List.setIfInBounds_toArray, List.set_cons_zero, List.set_cons_succ]
    rotate_left
    refine rdc 10 (fun K hK => ?_) AllReadyH.nil
    focus
      refine rgAl S ?_; clear S; intro gr17 w9 z9 S; clear z9
      (first | refine hK.out _ _ (S.sub subA) (fun _ => ?_) | (go_wp2_with fail; refine hK.out _ _ (S.sub subA) (fun _ => ?_)))
      clear hK K
      try simp only [Act.put, List.setIfInBounds_toArray, List.set_cons_zero, List.set_cons_succ]
    refine rdy1 6 (fun K hK => ?_)
    focus
      go_simp; (skip; go_at_call 58; (with_reducible refine (RelayGet_e _ s o _ _ (by first | exact S.rd memA | exact S.rdIn memA) (by first | exact S.rd memA | exact S.rdIn memA) p HR.out).mono ?_); rintro e w9 ⟨ca2, Fa2, rfl, h9, n9, b9, f9⟩; replace S := S.new (aOwn tCh _ ca2 Fa2) h9 n9 b9 f9; clear h9 n9 b9 f9)
      (first | refine hK.out _ _ (S.sub subA) (fun _ => ?_) | (go_wp2_with fail; refine hK.out _ _ (S.sub subA) (fun _ => ?_)))
      clear hK K
      try simp only [Act.put, List.setIfInBounds_toArray, List.set_cons_zero, List.set_cons_succ]
    refine tk 7 ?_
    try simp only [Act.put, List.setIfInBounds_toArray, List.set_cons_zero, List.set_cons_succ]
    refine tk 8 ?_
    try simp only [Act.put, List.setIfInBounds_toArray, List.set_cons_zero, List.set_cons_succ]
    refine tk 9 ?_
    try simp only [Act.put, List.setIfInBounds_toArray, List.set_cons_zero, List.set_cons_succ]
    refine rdy1 11 (fun K hK => ?_)
    focus
      (first | refine rgS1 S ?_ | refine rgSt S ?_ | refine rgSp S ?_); clear S; intro w9 S
      (first | refine hK.out _ _ (S.sub subA) (fun _ => ?_) | (go_wp2_with fail; refine hK.out _ _ (S.sub subA) (fun _ => ?_)))
      clear hK K
      try simp only [Act.put, List.setIfInBounds_toArray, List.set_cons_zero, List.set_cons_succ]
    refine tk 12 ?_
    try simp only [Act.put, List.setIfInBounds_toArray, List.set_cons_zero, List.set_cons_succ]
    rotate_left
    refine rdc 10 (fun K hK => ?_) AllReadyH.nil
    focus
      refine rgAl S ?_; clear S; intro gr17 w9 z9 S; clear z9
      (first | refine hK.out _ _ (S.sub subA) (fun _ => ?_) | (go_wp2_with fail; refine hK.out _ _ (S.sub subA) (fun _ => ?_)))
      clear hK K
      try simp only [Act.put, List.setIfInBounds_toArray, List.set_cons_zero, List.set_cons_succ]
    refine rdy1 5 (fun K hK => ?_)
    focus
      go_simp; (skip; go_at_call 57; (with_reducible refine (toPacket_l _ p (OK2.out)).mono ?_); rintro e w9 ⟨rfl, f9⟩; replace S := S.fr f9; clear f9)
      (first | refine hK.out _ _ (S.sub subA) (fun _ => ?_) | (go_wp2_with fail; refine hK.out _ _ (S.sub subA) (fun _ => ?_)))
      clear hK K
      try simp only [Act.put, List.setIfInBounds_toArray, List.set_cons_zero, List.set_cons_succ]
    refine rdy1 6 (fun K hK => ?_)
    focus
      go_simp; (skip; go_at_call 58; (with_reducible refine (RelayGet_e _ s o _ _ (by first | exact S.rd memA | exact S.rdIn memA) (by first | exact S.rd memA | exact S.rdIn memA) p HR.out).mono ?_); rintro e w9 ⟨ca2, Fa2, rfl, h9, n9, b9, f9⟩; replace S := S.new (aOwn tCh _ ca2 Fa2) h9 n9 b9 f9; clear h9 n9 b9 f9)
      (first | refine hK.out _ _ (S.sub subA) (fun _ => ?_) | (go_wp2_with fail; refine hK.out _ _ (S.sub subA) (fun _ => ?_)))
      clear hK K
      try simp only [Act.put, List.setIfInBounds_toArray, List.set_cons_zero, List.set_cons_succ]
    refine tk 7 ?_
    try simp only [Act.put, List.setIfInBounds_toArray, List.set_cons_zero, List.set_cons_succ]
    refine tk 8 ?_
    try simp only [Act.put, List.setIfInBounds_toArray, List.set_cons_zero, List.set_cons_succ]
    refine tk 9 ?_
    try simp only [Act.put, List.setIfInBounds_toArray, List.set_cons_zero, List.set_cons_succ]
    refine rdy1 11 (fun K hK => ?_)
    focus
      (first | refine rgS1 S ?_ | refine rgSt S ?_ | refine rgSp S ?_); clear S; intro w9 S
      (first | refine hK.out _ _ (S.sub subA) (fun _ => ?_) | (go_wp2_with fail; refine hK.out _ _ (S.sub subA) (fun _ => ?_)))
      clear hK K
      try simp only [Act.put, List.setIfInBounds_toArray, List.set_cons_zero, List.set_cons_succ]
    refine tk 12 ?_
    try simp only [Act.put, List.setIfInBounds_toArray, List.set_cons_zero, List.set_cons_succ]
    rotate_left
    refine rdc 10 (fun K hK => ?_) AllReadyH.nil
    focus
      refine rgAl S ?_; clear S; intro gr17 w9 z9 S; clear z9
      (first | refine hK.out _ _ (S.sub subA) (fun _ => ?_) | (go_wp2_with fail; refine hK.out _ _ (S.sub subA) (fun _ => ?_)))
      clear hK K
      try simp only [Act.put, List.setIfInBounds_toArray, List.set_cons_zero, List.set_cons_succ]
    refine rdy1 3 (fun K hK => ?_)
    focus
      go_simp; (skip; go_at_call 52; (with_reducible refine (toState_c _ o _ (FIN1.out _ S.frame) HM1.out).mono ?_); rintro e w9 ⟨ca1, Fa1, rfl, h9, n9, b9, f9⟩; replace S := S.new (aOwn tSt _ ca1 Fa1) h9 n9 b9 f9; clear h9 n9 b9 f9)
      (first | refine hK.out _ _ (S.sub subA) (fun _ => ?_) | (go_wp2_with fail; refine hK.out _ _ (S.sub subA) (fun _ => ?_)))
      clear hK K
      try simp only [Act.put, List.setIfInBounds_toArray, List.set_cons_zero, List.set_cons_succ]
    refine rdy1 5 (fun K hK => ?_)
    focus
      go_simp; (skip; go_at_call 57; (with_reducible refine (toPacket_l _ p (OK2.out)).mono ?_); rintro e w9 ⟨rfl, f9⟩; replace S := S.fr f9; clear f9)
      (first | refine hK.out _ _ (S.sub subA) (fun _ => ?_) | (go_wp2_with fail; refine hK.out _ _ (S.sub subA) (fun _ => ?_)))
      clear hK K
      try simp only [Act.put, List.setIfInBounds_toArray, List.set_cons_zero, List.set_cons_succ]
    refine rdy1 6 (fun K hK => ?_)
    focus
      go_simp; (skip; go_at_call 58; (with_reducible refine (RelayGet_e _ s o _ _ (by first | exact S.rd memA | exact S.rdIn memA) (by first | exact S.rd memA | exact S.rdIn memA) p HR.out).mono ?_); rintro e w9 ⟨ca2, Fa2, rfl, h9, n9, b9, f9⟩; replace S := S.new (aOwn tCh _ ca2 Fa2) h9 n9 b9 f9; clear h9 n9 b9 f9)
      (first | refine hK.out _ _ (S.sub subA) (fun _ => ?_) | (go_wp2_with fail; refine hK.out _ _ (S.sub subA) (fun _ => ?_)))
      clear hK K
      try simp only [Act.put, List.setIfInBounds_toArray, List.set_cons_zero, List.set_cons_succ]
    refine tk 7 ?_
    try simp only [Act.put, List.setIfInBounds_toArray, List.set_cons_zero, List.set_cons_succ]
    refine tk 8 ?_
    try simp only [Act.put, List.setIfInBounds_toArray, List.set_cons_zero, List.set_cons_succ]
    refine tk 9 ?_
    try simp only [Act.put, List.setIfInBounds_toArray, List.set_cons_zero, List.set_cons_succ]
    refine rdy1 11 (fun K hK => ?_)
    focus
      (first | refine rgS1 S ?_ | refine rgSt S ?_ | refine rgSp S ?_); clear S; intro w9 S
      (first | refine hK.out _ _ (S.sub subA) (fun _ => ?_) | (go_wp2_with fail; refine hK.out _ _ (S.sub subA) (fun _ => ?_)))
      clear hK K
      try simp only [Act.put, List.setIfInBounds_toArray, List.set_cons_zero, List.set_cons_succ]
    refine tk 12 ?_
    try simp only [Act.put, List.setIfInBounds_toArray, List.set_cons_zero, List.set_cons_succ]
    rotate_left
    refine rdc 10 (fun K hK => ?_) AllReadyH.nil
    focus
      refine rgAl S ?_; clear S; intro gr17 w9 z9 S; clear z9
      (first | refine hK.out _ _ (S.sub subA) (fun _ => ?_) | (go_wp2_with fail; refine hK.out _ _ (S.sub subA) (fun _ => ?_)))
      clear hK K
      try simp only [Act.put, List.setIfInBounds_toArray, List.set_cons_zero, List.set_cons_succ]
    refine rdy1 1 (fun K hK => ?_)
    focus
      go_simp; (skip; go_at_call 34; (with_reducible refine (toChain_c _ s _ (FIN0.out _ S.frame) HM0.out).mono ?_); rintro e w9 ⟨ca0, Fa0, rfl, h9, n9, b9, f9⟩; replace S := S.new (aOwn tCh _ ca0 Fa0) h9 n9 b9 f9; clear h9 n9 b9 f9)
      (first | refine hK.out _ _ (S.sub subA) (fun _ => ?_) | (go_wp2_with fail; refine hK.out _ _ (S.sub subA) (fun _ => ?_)))
      clear hK K
      try simp only [Act.put, List.setIfInBounds_toArray, List.set_cons_zero, List.set_cons_succ]
    refine rdy1 3 (fun K hK => ?_)
    focus
      go_simp; (skip; go_at_call 52; (with_reducible refine (toState_c _ o _ (FIN1.out _ S.frame) HM1.out).mono ?_); rintro e w9 ⟨ca1, Fa1, rfl, h9, n9, b9, f9⟩; replace S := S.new (aOwn tSt _ ca1 Fa1) h9 n9 b9 f9; clear h9 n9 b9 f9)
      (first | refine hK.out _ _ (S.sub subA) (fun _ => ?_) | (go_wp2_with fail; refine hK.out _ _ (S.sub subA) (fun _ => ?_)))
      clear hK K
      try simp only [Act.put, List.setIfInBounds_toArray, List.set_cons_zero, List.set_cons_succ]
    refine rdy1 5 (fun K hK => ?_)
    focus
      go_simp; (skip; go_at_call 57; (with_reducible refine (toPacket_l _ p (OK2.out)).mono ?_); rintro e w9 ⟨rfl, f9⟩; replace S := S.fr f9; clear f9)
      (first | refine hK.out _ _ (S.sub subA) (fun _ => ?_) | (go_wp2_with fail; refine hK.out _ _ (S.sub subA) (fun _ => ?_)))
      clear hK K
      try simp only [Act.put, List.setIfInBounds_toArray, List.set_cons_zero, List.set_cons_succ]
    refine rdy1 6 (fun K hK => ?_)
    focus
      go_simp; (skip; go_at_call 58; (with_reducible refine (RelayGet_e _ s o _ _ (by first | exact S.rd memA | exact S.rdIn memA) (by first | exact S.rd memA | exact S.rdIn memA) p HR.out).mono ?_); rintro e w9 ⟨ca2, Fa2, rfl, h9, n9, b9, f9⟩; replace S := S.new (aOwn tCh _ ca2 Fa2) h9 n9 b9 f9; clear h9 n9 b9 f9)
      (first | refine hK.out _ _ (S.sub subA) (fun _ => ?_) | (go_wp2_with fail; refine hK.out _ _ (S.sub subA) (fun _ => ?_)))
      clear hK K
      try simp only [Act.put, List.setIfInBounds_toArray, List.set_cons_zero, List.set_cons_succ]
    refine tk 7 ?_
    try simp only [Act.put, List.setIfInBounds_toArray, List.set_cons_zero, List.set_cons_succ]
    refine tk 8 ?_
    try simp only [Act.put, List.setIfInBounds_toArray, List.set_cons_zero, List.set_cons_succ]
    refine tk 9 ?_
    try simp only [Act.put, List.setIfInBounds_toArray, List.set_cons_zero, List.set_cons_succ]
    refine rdy1 11 (fun K hK => ?_)
    focus
      (first | refine rgS1 S ?_ | refine rgSt S ?_ | refine rgSp S ?_); clear S; intro w9 S
      (first | refine hK.out _ _ (S.sub subA) (fun _ => ?_) | (go_wp2_with fail; refine hK.out _ _ (S.sub subA) (fun _ => ?_)))
      clear hK K
      try simp only [Act.put, List.setIfInBounds_toArray, List.set_cons_zero, List.set_cons_succ]
    refine tk 12 ?_
    try simp only [Act.put, List.setIfInBounds_toArray, List.set_cons_zero, List.set_cons_succ]
    rotate_left
    all_goals
      refine wpAnyH_done (by kernel_rfl) ?_ _
      refine NoPanic.normal ?_
      replace S := S.rest (a := aOwn tCh s ca0 Fa0) delA
      replace S := S.rest (a := aOwn tSt o ca1 Fa1) delA
      replace S := S.pull (a := aBox gr17 _ _ _) delA
      replace S := S.pull (a := aOwn tCh x ca2 Fa2) delA
      revert S
      revert w9
      revert Fa2
      revert ca2
      revert ca1
      revert ca0
      revert gr17
      exact H
  intro gr17 ca0 ca1 ca2 Fa2 w9 _ S
  go_wp2_with (first | (go_at_call 24; (with_reducible refine (eqChain_c _ x _ _ (by first | exact S.rd memA | exact S.rdIn memA) (by first | exact S.rd memA | exact S.rdIn memA)).mono ?_); rintro e w9 ⟨rfl, f9⟩; replace S := S.fr f9; clear f9) | (go_at_call 26; (with_reducible refine (heldChain_c _ x _ 1 (by first | exact S.rd memA | exact S.rdIn memA) HX.out (by omega) (by omega)).mono ?_); rintro e w9 ⟨rfl, f9⟩; replace S := S.fr f9; clear f9) | ((with_reducible refine gate_box rfl ?_); refine aBx S ?_; clear S; intro g9 w9 z9 S) | ((with_reducible refine gate_alloc rfl ?_); refine aAl S ?_; clear S; intro g9 w9 z9 S) | ((with_reducible refine gate_load rfl ?_); first | refine aLd S ?_ | refine aPt S ?_ | refine aL1 S ?_) | ((with_reducible refine gate_st rfl ?_); (first | refine aS1 S ?_ | refine aSt S ?_ | refine aSp S ?_); clear S; intro w9 S))
  go_ret
  exact ⟨rfl, S.frame⟩
end Go.Proofs.Ytapdcgjccckjeaa
