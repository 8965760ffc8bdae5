/- The program's and the reference's ChainAt. -/
import Derived.Test.YtapdcgjccckjeaaLnkD
import Derived.Test.YtapdcgjccckjeaaFresh
namespace Go.Proofs.Ytapdcgjccckjeaa
set_option maxRecDepth 100000
set_option linter.unusedVariables false
set_option linter.unusedSimpArgs false
open Go.RowKit
theorem Sep.zStS {F0 : List Nat} {w0 w : World} {L : List Asrt} (S : Sep F0 w0 L w) : Sep F0 w0 (aOwn tSt zStS [.int .i64 0, .int .i64 0, .int .i64 0, .slice none 0 0, .slice none 0 0, .slice none 0 0, .slice none 0 0] [] :: L) w :=
  S.new (aOwn tSt Go.Proofs.Ytapdcgjccckjeaa.zStS _ []) (zStS_own w) (by simp [aOwn]) (fun q hq => by cases hq) (Fr.refl _)
def atV (c : Ch) (h : Int) : St × Bool := if okCh c = true ∧ 1 ≤ h ∧ h ≤ c.past.length then (c.past.getD (h - 1).toNat zStS, true) else (zStS, false)
theorem atV_no {c : Ch} {h : Int} (hn : ¬ (okCh c = true ∧ 1 ≤ h ∧ h ≤ c.past.length)) : atV c h = (zStS, false) := if_neg hn
theorem atV_yes {c : Ch} {k : Nat} (h1 : okCh c = true) (hk : k < c.past.length) : atV c ((k : Int) + 1) = (c.past[k], true) := by
  unfold atV
  rw [if_pos ⟨h1, by omega, by omega⟩]
  have : ((k : Int) + 1 - 1).toNat = k := by omega
  rw [this]
  simp [hk]
set_option maxHeartbeats 3200000 in
theorem ChainAt_c (w : World) (c : Ch) (c1 : List Value) (h1 : tCh.rd w c c1) (h : Int) (bh : I64 h) : Calls Try.prog 42 #[.agg c1.toArray, .int .i64 h] w (RetOwn2 tSt (atV c h) w) := by
  have S := Sep.start w
  cases o1 : okCh c with
  | false =>
    have FIN := Lib.hid (fun (W : World) (f : Fr w W) => tCh.fr f h1)
    have R := Lib.hid (atV_no (c := c) (h := h) (by rw [o1]; simp))
    have LN := Lib.hid (show c1.length = 13 from tCh.len h1)
    have O1 := Lib.hid o1
    clear o1 h1 bh
    go_enter Try.func42, Try.ntmps42
    go_wp2_with (first
      | (go_at_call 19; (with_reducible refine (ChainOk_r _ c _ (FIN.out _ S.frame) O1.out).mono ?_); rintro e w9 ⟨rfl, f9⟩; replace S := S.fr f9; clear f9)
      | ((with_reducible refine gate_box rfl ?_); refine aBx S ?_; clear S; intro g9 w9 z9 S) | ((with_reducible refine gate_alloc rfl ?_); refine aAl S ?_; clear S; intro g9 w9 z9 S) | ((with_reducible refine gate_load rfl ?_); first | refine aLd S ?_ | refine aPt S ?_ | refine aL1 S ?_) | ((with_reducible refine gate_st rfl ?_); (first | refine aS1 S ?_ | refine aSt S ?_ | refine aSp S ?_); clear S; intro w9 S))
    have S' := S.zStS
    (refine Sep.ret1_1 S rfl rfl memA Try.underlying30 rfl ts30 rfl rfl ?_)
    rw [R.out]
    exact S'.retOwn2 List.mem_cons_self
  | true =>
  obtain ⟨b1, b2, s1, s2, s3, s4, v1, v2, rfl, h11, h12, h13, h14, h15⟩ := id h1
  obtain ⟨A1, n1, rfl⟩ := h13.val
  have FIN := Lib.hid (fun (W : World) (f : Fr w W) => tCh.fr f h1)
  have hl := (okCh_parts o1).2.2.2.1
  have O1 := Lib.hid o1
  clear h1 h11 h12 h14 h15
  by_cases e1 : 1 ≤ h
  case neg =>
    have R := Lib.hid (atV_no (c := c) (h := h) (by omega))
    have d1 : decide (h < 1) = true := decide_eq_true (by omega)
    clear o1
    go_enter Try.func42, Try.ntmps42
    go_wp2_with (first
      | (go_at_call 19; (with_reducible refine (ChainOk_r _ c _ (FIN.out _ S.frame) O1.out).mono ?_); rintro e w9 ⟨rfl, f9⟩; replace S := S.fr f9; clear f9)
      | ((with_reducible refine gate_box rfl ?_); refine aBx S ?_; clear S; intro g9 w9 z9 S) | ((with_reducible refine gate_alloc rfl ?_); refine aAl S ?_; clear S; intro g9 w9 z9 S) | ((with_reducible refine gate_load rfl ?_); first | refine aLd S ?_ | refine aPt S ?_ | refine aL1 S ?_) | ((with_reducible refine gate_st rfl ?_); (first | refine aS1 S ?_ | refine aSt S ?_ | refine aSp S ?_); clear S; intro w9 S))
    have S' := S.zStS
    (refine Sep.ret1_1 S rfl rfl memA Try.underlying30 rfl ts30 rfl rfl ?_)
    rw [R.out]
    exact S'.retOwn2 List.mem_cons_self
  by_cases e2 : h ≤ c.past.length
  case neg =>
    have R := Lib.hid (atV_no (c := c) (h := h) (by omega))
    have d1 : decide (h < 1) = false := decide_eq_false (by omega)
    have d2 : decide ((c.past.length : Int) < h) = true := decide_eq_true (by omega)
    clear o1
    go_enter Try.func42, Try.ntmps42
    go_wp2_with (first
      | (go_at_call 19; (with_reducible refine (ChainOk_r _ c _ (FIN.out _ S.frame) O1.out).mono ?_); rintro e w9 ⟨rfl, f9⟩; replace S := S.fr f9; clear f9)
      | ((with_reducible refine gate_box rfl ?_); refine aBx S ?_; clear S; intro g9 w9 z9 S) | ((with_reducible refine gate_alloc rfl ?_); refine aAl S ?_; clear S; intro g9 w9 z9 S) | ((with_reducible refine gate_load rfl ?_); first | refine aLd S ?_ | refine aPt S ?_ | refine aL1 S ?_) | ((with_reducible refine gate_st rfl ?_); (first | refine aS1 S ?_ | refine aSt S ?_ | refine aSp S ?_); clear S; intro w9 S))
    have S' := S.zStS
    (refine Sep.ret1_1 S rfl rfl memA Try.underlying30 rfl ts30 rfl rfl ?_)
    rw [R.out]
    exact S'.retOwn2 List.mem_cons_self
  obtain ⟨k, rfl⟩ : ∃ k : Nat, h = (k : Int) + 1 := ⟨(h - 1).toNat, by omega⟩
  have hlt : k < c.past.length := by omega
  have R := Lib.hid (atV_yes o1 hlt)
  have SB := Lib.hid (okSt_small (past_ok o1 k hlt))
  obtain ⟨ad1, cs1, rfl, r1, g1⟩ := cellsAt_of_row h13 k hlt
  have G1 := Lib.hid (fun (W : World) (f : Fr w W) => g1.fr f)
  have Q1 := Lib.hid (fun (W : World) (f : Fr w W) => tSt.fr f r1)
  have N1 := Lib.hid (show cs1.length = 7 from tSt.len r1)
  have d1 : decide ((k : Int) + 1 < 1) = false := decide_eq_false (by omega)
  have d2 : decide ((c.past.length : Int) < (k : Int) + 1) = false := decide_eq_false (by omega)
  have p0 : (0 : Int) ≤ (k : Int) := Int.natCast_nonneg _
  have p1 : (k : Int) < (c.past.length : Int) := by omega
  have w1 : IntKind.i64.wrap ((k : Int) + 1 - 1) = (k : Int) := by rw [Int.add_sub_cancel]; exact IntWalk.i64_in _ (by omega)
  have w2 : IntKind.i64.wrap (k : Int) = (k : Int) := IntWalk.i64_in _ (by omega)
  clear o1 e1 e2 bh g1 r1
  go_enter Try.func42, Try.ntmps42
  go_wp2_with (first
    | (go_at_call 19; (with_reducible refine (ChainOk_r _ c _ (FIN.out _ S.frame) O1.out).mono ?_); rintro e w9 ⟨rfl, f9⟩; replace S := S.fr f9; clear f9)
    | ((with_reducible refine gate_dst (N := 26) rfl ?_); refine aRw (G1.out _ S.frame) ?_ (hn := N1.out))
    | (go_at_call 95; (with_reducible refine (stateCopy_c _ _ _ (Q1.out _ S.frame) SB.out).mono ?_); rintro e w9 ⟨cs9, F9, rfl, h9, n9, b9, f9⟩; replace S := S.new (aOwn tSt _ cs9 F9) h9 n9 b9 f9; clear h9 n9 b9 f9)
    | ((with_reducible refine gate_box rfl ?_); refine aBx S ?_; clear S; intro g9 w9 z9 S) | ((with_reducible refine gate_alloc rfl ?_); refine aAl S ?_; clear S; intro g9 w9 z9 S) | ((with_reducible refine gate_load rfl ?_); first | refine aLd S ?_ | refine aPt S ?_ | refine aL1 S ?_) | ((with_reducible refine gate_st rfl ?_); (first | refine aS1 S ?_ | refine aSt S ?_ | refine aSp S ?_); clear S; intro w9 S))
  (refine Sep.ret1_1 S rfl rfl memA Try.underlying30 rfl ts30 rfl rfl ?_)
  rw [R.out]
  exact S.retOwn2 memA
set_option maxHeartbeats 3200000 in
theorem sChainAt_c (w : World) (c : Ch) (c1 : List Value) (h1 : tCh.rd w c c1) (h : Int) (bh : I64 h) : Calls Try.prog 41 #[.agg c1.toArray, .int .i64 h] w (RetOwn2 tSt (atV c h) w) := by
  have S := Sep.start w
  cases o1 : okCh c with
  | false =>
    have FIN := Lib.hid (fun (W : World) (f : Fr w W) => tCh.fr f h1)
    have R := Lib.hid (atV_no (c := c) (h := h) (by rw [o1]; simp))
    have LN := Lib.hid (show c1.length = 13 from tCh.len h1)
    have O1 := Lib.hid o1
    clear o1 h1 bh
    go_enter Try.func41, Try.ntmps41
    go_wp2_with (first
      | (go_at_call 33; (with_reducible refine (sChainOk_r _ c _ (FIN.out _ S.frame) O1.out).mono ?_); rintro e w9 ⟨rfl, f9⟩; replace S := S.fr f9; clear f9)
      | ((with_reducible refine gate_box rfl ?_); refine aBx S ?_; clear S; intro g9 w9 z9 S) | ((with_reducible refine gate_alloc rfl ?_); refine aAl S ?_; clear S; intro g9 w9 z9 S) | ((with_reducible refine gate_load rfl ?_); first | refine aLd S ?_ | refine aPt S ?_ | refine aL1 S ?_) | ((with_reducible refine gate_st rfl ?_); (first | refine aS1 S ?_ | refine aSt S ?_ | refine aSp S ?_); clear S; intro w9 S))
    have S' := S.zStS
    (refine Sep.ret1_1 S rfl rfl memA Try.underlying30 rfl ts30 rfl rfl ?_)
    rw [R.out]
    exact S'.retOwn2 List.mem_cons_self
  | true =>
  obtain ⟨b1, b2, s1, s2, s3, s4, v1, v2, rfl, h11, h12, h13, h14, h15⟩ := id h1
  obtain ⟨A1, n1, rfl⟩ := h13.val
  have FIN := Lib.hid (fun (W : World) (f : Fr w W) => tCh.fr f h1)
  have hl := (okCh_parts o1).2.2.2.1
  have O1 := Lib.hid o1
  clear h1 h11 h12 h14 h15
  by_cases e1 : 1 ≤ h
  case neg =>
    have R := Lib.hid (atV_no (c := c) (h := h) (by omega))
    have HI := Lib.hid (show decide (1 ≤ h ∧ h ≤ (c.past.length : Int)) = false by simp; omega)
    clear o1
    go_enter Try.func41, Try.ntmps41
    go_wp2_with (first
      | (go_at_call 33; (with_reducible refine (sChainOk_r _ c _ (FIN.out _ S.frame) O1.out).mono ?_); rintro e w9 ⟨rfl, f9⟩; replace S := S.fr f9; clear f9)
      | (go_at_call 61; (with_reducible refine (l6In_e _ h 1 _ HI.out).mono ?_); rintro e w9 ⟨rfl, rfl⟩)
      | ((with_reducible refine gate_box rfl ?_); refine aBx S ?_; clear S; intro g9 w9 z9 S) | ((with_reducible refine gate_alloc rfl ?_); refine aAl S ?_; clear S; intro g9 w9 z9 S) | ((with_reducible refine gate_load rfl ?_); first | refine aLd S ?_ | refine aPt S ?_ | refine aL1 S ?_) | ((with_reducible refine gate_st rfl ?_); (first | refine aS1 S ?_ | refine aSt S ?_ | refine aSp S ?_); clear S; intro w9 S))
    have S' := S.zStS
    (refine Sep.ret1_1 S rfl rfl memA Try.underlying30 rfl ts30 rfl rfl ?_)
    rw [R.out]
    exact S'.retOwn2 List.mem_cons_self
  by_cases e2 : h ≤ c.past.length
  case neg =>
    have R := Lib.hid (atV_no (c := c) (h := h) (by omega))
    have HI := Lib.hid (show decide (1 ≤ h ∧ h ≤ (c.past.length : Int)) = false by simp; omega)
    clear o1
    go_enter Try.func41, Try.ntmps41
    go_wp2_with (first
      | (go_at_call 33; (with_reducible refine (sChainOk_r _ c _ (FIN.out _ S.frame) O1.out).mono ?_); rintro e w9 ⟨rfl, f9⟩; replace S := S.fr f9; clear f9)
      | (go_at_call 61; (with_reducible refine (l6In_e _ h 1 _ HI.out).mono ?_); rintro e w9 ⟨rfl, rfl⟩)
      | ((with_reducible refine gate_box rfl ?_); refine aBx S ?_; clear S; intro g9 w9 z9 S) | ((with_reducible refine gate_alloc rfl ?_); refine aAl S ?_; clear S; intro g9 w9 z9 S) | ((with_reducible refine gate_load rfl ?_); first | refine aLd S ?_ | refine aPt S ?_ | refine aL1 S ?_) | ((with_reducible refine gate_st rfl ?_); (first | refine aS1 S ?_ | refine aSt S ?_ | refine aSp S ?_); clear S; intro w9 S))
    have S' := S.zStS
    (refine Sep.ret1_1 S rfl rfl memA Try.underlying30 rfl ts30 rfl rfl ?_)
    rw [R.out]
    exact S'.retOwn2 List.mem_cons_self
  obtain ⟨k, rfl⟩ : ∃ k : Nat, h = (k : Int) + 1 := ⟨(h - 1).toNat, by omega⟩
  have hlt : k < c.past.length := by omega
  have R := Lib.hid (atV_yes o1 hlt)
  have SB := Lib.hid (okSt_small (past_ok o1 k hlt))
  obtain ⟨ad1, cs1, rfl, r1, g1⟩ := cellsAt_of_row h13 k hlt
  have G1 := Lib.hid (fun (W : World) (f : Fr w W) => g1.fr f)
  have Q1 := Lib.hid (fun (W : World) (f : Fr w W) => tSt.fr f r1)
  have N1 := Lib.hid (show cs1.length = 7 from tSt.len r1)
  have HI := Lib.hid (show decide (1 ≤ (k : Int) + 1 ∧ (k : Int) + 1 ≤ (c.past.length : Int)) = true by simp; omega)
  have p0 : (0 : Int) ≤ (k : Int) := Int.natCast_nonneg _
  have p1 : (k : Int) < (c.past.length : Int) := by omega
  have w1 : IntKind.i64.wrap ((k : Int) + 1 - 1) = (k : Int) := by rw [Int.add_sub_cancel]; exact IntWalk.i64_in _ (by omega)
  have w2 : IntKind.i64.wrap (k : Int) = (k : Int) := IntWalk.i64_in _ (by omega)
  clear o1 e1 e2 bh g1 r1
  go_enter Try.func41, Try.ntmps41
  go_wp2_with (first
    | (go_at_call 33; (with_reducible refine (sChainOk_r _ c _ (FIN.out _ S.frame) O1.out).mono ?_); rintro e w9 ⟨rfl, f9⟩; replace S := S.fr f9; clear f9)
    | (go_at_call 61; (with_reducible refine (l6In_e _ ((k : Int) + 1) 1 _ HI.out).mono ?_); rintro e w9 ⟨rfl, rfl⟩)
    | ((with_reducible refine gate_dst (N := 23) rfl ?_); refine aRw (G1.out _ S.frame) ?_ (hn := N1.out))
    | (go_at_call 94; (with_reducible refine (l3Copy_c _ _ _ (Q1.out _ S.frame) SB.out).mono ?_); rintro e w9 ⟨cs9, F9, rfl, h9, n9, b9, f9⟩; replace S := S.new (aOwn tSt _ cs9 F9) h9 n9 b9 f9; clear h9 n9 b9 f9)
    | ((with_reducible refine gate_box rfl ?_); refine aBx S ?_; clear S; intro g9 w9 z9 S) | ((with_reducible refine gate_alloc rfl ?_); refine aAl S ?_; clear S; intro g9 w9 z9 S) | ((with_reducible refine gate_load rfl ?_); first | refine aLd S ?_ | refine aPt S ?_ | refine aL1 S ?_) | ((with_reducible refine gate_st rfl ?_); (first | refine aS1 S ?_ | refine aSt S ?_ | refine aSp S ?_); clear S; intro w9 S))
  (refine Sep.ret1_1 S rfl rfl memA Try.underlying30 rfl ts30 rfl rfl ?_)
  rw [R.out]
  exact S.retOwn2 memA
theorem ChainAt_e (w : World) (c : Ch) (c1 : List Value) (h1 : tCh.rd w c c1) (h : Int) (bh : I64 h) {x : St} {ok : Bool} (hR : atV c h = (x, ok)) : Calls Try.prog 42 #[.agg c1.toArray, .int .i64 h] w (RetOwn2 tSt (x, ok) w) := hR ▸ ChainAt_c w c c1 h1 h bh
theorem sChainAt_e (w : World) (c : Ch) (c1 : List Value) (h1 : tCh.rd w c c1) (h : Int) (bh : I64 h) {x : St} {ok : Bool} (hR : atV c h = (x, ok)) : Calls Try.prog 41 #[.agg c1.toArray, .int .i64 h] w (RetOwn2 tSt (x, ok) w) := hR ▸ sChainAt_c w c c1 h1 h bh
theorem okSt_Small {s : St} (h : okSt s = true) : Small s := okSt_small h
theorem atV_small {c : Ch} {h : Int} {x : St} {ok : Bool} (hR : atV c h = (x, ok)) : Small x := by
  unfold atV at hR
  split at hR
  · rename_i hc
    simp only [Prod.mk.injEq] at hR
    rw [← hR.1]
    have hk : (h - 1).toNat < c.past.length := by omega
    rw [List.getD_eq_getElem?_getD, List.getElem?_eq_getElem hk]
    exact okSt_Small (past_ok hc.1 _ hk)
  · simp only [Prod.mk.injEq] at hR
    rw [← hR.1]
    simp [Small, zStS]
end Go.Proofs.Ytapdcgjccckjeaa
