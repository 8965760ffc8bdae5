/- The texts ChLw, Open, OpenBytes, OpenPk, OpenState, OpenBank, OpenChain, OpenWorld, LawFnChainNew. -/
import Derived.Test.YtapdcgjccckjeaaPkFnChainNewF
import Derived.Deep.Slices
import Derived.ChangeArms
import Derived.Carry
namespace Go.Proofs.Ytapdcgjccckjeaa
set_option maxRecDepth 100000
set_option linter.unusedVariables false
set_option linter.unusedSimpArgs false
open Go.RowKit
set_option maxHeartbeats 400000 in
theorem lwInts_c (w : World) (v u : Value) (xs : List Int) (h1 : tInt.row w v xs) (h2 : tInt.row w u xs) :
    Calls Try.prog 66 #[v, u] w (Ret (.bool true) w) := by
  obtain ⟨A1, c1, rfl⟩ := h1.val
  obtain ⟨A2, c2, rfl⟩ := h2.val
  have hm := h1.le
  go_enter Try.func66, Try.ntmps66
  go_wp2
  go_loopw [5] (fun i wr => ∃ k n : Nat, k ≤ xs.length ∧ i = .int .i64 k ∧ wr = w.drewN n) (fun i _ => xs.length - (intOf i).toNat)
  case atStart => exact ⟨0, 0, Nat.zero_le _, rfl, rfl⟩
  case round =>
    obtain ⟨k, n, hk, rfl, rfl⟩ := hrel
    by_cases hlt : k < xs.length
    · obtain ⟨ad1, rfl, g1⟩ := row_int_at h1 k hlt
      obtain ⟨ad2, rfl, g2⟩ := row_int_at h2 k hlt
      have p0 : (0 : Int) ≤ (k : Int) := Int.natCast_nonneg _
      have p1 : (k : Int) < (xs.length : Int) := by omega
      go_wp2
      go_quiet (fail)
      go_wp2
      go_roundw
      case rel => exact ⟨k + 1, _, by omega, by go_num, rfl⟩
      case measure => simp [intOf]; omega
    · go_wp2
      go_ret
      exact ⟨rfl, (Fr.refl w).drewN n⟩

set_option maxHeartbeats 400000 in
theorem lwBools_c (w : World) (v u : Value) (xs : List Bool) (h1 : tBool.row w v xs) (h2 : tBool.row w u xs) :
    Calls Try.prog 69 #[v, u] w (Ret (.bool true) w) := by
  obtain ⟨A1, c1, rfl⟩ := h1.val
  obtain ⟨A2, c2, rfl⟩ := h2.val
  have hm := h1.le
  go_enter Try.func69, Try.ntmps69
  go_wp2
  go_loopw [5] (fun i wr => ∃ k n : Nat, k ≤ xs.length ∧ i = .int .i64 k ∧ wr = w.drewN n) (fun i _ => xs.length - (intOf i).toNat)
  case atStart => exact ⟨0, 0, Nat.zero_le _, rfl, rfl⟩
  case round =>
    obtain ⟨k, n, hk, rfl, rfl⟩ := hrel
    by_cases hlt : k < xs.length
    · obtain ⟨ad1, rfl, g1⟩ := row_bool_at h1 k hlt
      obtain ⟨ad2, rfl, g2⟩ := row_bool_at h2 k hlt
      have p0 : (0 : Int) ≤ (k : Int) := Int.natCast_nonneg _
      have p1 : (k : Int) < (xs.length : Int) := by omega
      go_wp2
      go_quiet (fail)
      go_wp2
      go_roundw
      case rel => exact ⟨k + 1, _, by omega, by go_num, rfl⟩
      case measure => simp [intOf]; omega
    · go_wp2
      go_ret
      exact ⟨rfl, (Fr.refl w).drewN n⟩

set_option maxHeartbeats 800000 in
theorem lwBank_c (w : World) (b : Bk) (c1 c2 : List Value) (h1 : tBk.rd w b c1) (h2 : tBk.rd w b c2) :
    Calls Try.prog 20 #[.agg c1.toArray, .agg c2.toArray] w (Ret (.bool true) w) := by
  obtain ⟨v1, v2, rfl, h11, h12, h13⟩ := h1
  obtain ⟨u1, u2, rfl, h21, h22, _⟩ := h2
  have S := Sep.start w
  go_enter Try.func20, Try.ntmps20
  go_wp2_with (first
    | (go_at_call 66; (with_reducible refine (lwInts_c _ _ _ _ (h11.fr S.frame) (h21.fr S.frame)).mono ?_); rintro e w9 ⟨rfl, f9⟩; replace S := S.fr f9; clear f9)
    | (go_at_call 66; (with_reducible refine (lwInts_c _ _ _ _ (h12.fr S.frame) (h22.fr S.frame)).mono ?_); rintro e w9 ⟨rfl, f9⟩; replace S := S.fr f9; clear f9)
    | ((with_reducible refine gate_box rfl ?_); refine aBx S ?_; clear S; intro g9 w9 z9 S) | ((with_reducible refine gate_alloc rfl ?_); refine aAl S ?_; clear S; intro g9 w9 z9 S) | ((with_reducible refine gate_load rfl ?_); first | refine aLd S ?_ | refine aPt S ?_ | refine aL1 S ?_) | ((with_reducible refine gate_st rfl ?_); (first | refine aS1 S ?_ | refine aSt S ?_ | refine aSp S ?_); clear S; intro w9 S))
  go_ret
  exact ⟨by simp, S.frame⟩

set_option maxHeartbeats 1600000 in
theorem lwState_c (w : World) (s : St) (c1 c2 : List Value) (h1 : tSt.rd w s c1) (h2 : tSt.rd w s c2) (hs : s.sent = []) : Calls Try.prog 22 #[.agg c1.toArray, .agg c2.toArray] w (Ret (.bool true) w) := by
  obtain ⟨way, vsn, want, sent, live, back, got⟩ := s
  simp only at hs
  subst hs
  obtain ⟨v1, v2, v3, v4, rfl, h11, h12, h13, h14, _⟩ := h1
  obtain ⟨u1, u2, u3, u4, rfl, h21, h22, h23, h24, _⟩ := h2
  obtain ⟨A1, c1, e1⟩ := h11.val
  obtain ⟨A2, c2, e2⟩ := h21.val
  have e1 : v1 = .slice A1 0 c1 := e1
  have e2 : u1 = .slice A2 0 c2 := e2
  subst e1 e2
  have S := Sep.start w
  go_enter Try.func22, Try.ntmps22
  go_wp2_with (first | ((with_reducible refine gate_box rfl ?_); refine aBx S ?_; clear S; intro g9 w9 z9 S) | ((with_reducible refine gate_alloc rfl ?_); refine aAl S ?_; clear S; intro g9 w9 z9 S) | ((with_reducible refine gate_load rfl ?_); first | refine aLd S ?_ | refine aPt S ?_ | refine aL1 S ?_) | ((with_reducible refine gate_st rfl ?_); (first | refine aS1 S ?_ | refine aSt S ?_ | refine aSp S ?_); clear S; intro w9 S))
  refine wp_loop_rounds 1 ?_
  rw [rounds_succ]
  go_wp2_with (first
    | (go_at_call 69; (with_reducible refine (lwBools_c _ _ _ _ (h12.fr S.frame) (h22.fr S.frame)).mono ?_); rintro e w9 ⟨rfl, f9⟩; replace S := S.fr f9; clear f9)
    | (go_at_call 69; (with_reducible refine (lwBools_c _ _ _ _ (h13.fr S.frame) (h23.fr S.frame)).mono ?_); rintro e w9 ⟨rfl, f9⟩; replace S := S.fr f9; clear f9)
    | (go_at_call 66; (with_reducible refine (lwInts_c _ _ _ _ (h14.fr S.frame) (h24.fr S.frame)).mono ?_); rintro e w9 ⟨rfl, f9⟩; replace S := S.fr f9; clear f9)
    | ((with_reducible refine gate_box rfl ?_); refine aBx S ?_; clear S; intro g9 w9 z9 S) | ((with_reducible refine gate_alloc rfl ?_); refine aAl S ?_; clear S; intro g9 w9 z9 S) | ((with_reducible refine gate_load rfl ?_); first | refine aLd S ?_ | refine aPt S ?_ | refine aL1 S ?_) | ((with_reducible refine gate_st rfl ?_); (first | refine aS1 S ?_ | refine aSt S ?_ | refine aSp S ?_); clear S; intro w9 S))
  go_ret
  exact ⟨rfl, S.frame⟩
theorem chRd_parts {w : World} {c : Ch} {i b1 b2 lk a b d s1 s2 s3 s4 v1 v2 : Value} (h : tCh.rd w c [i, b1, b2, lk, a, b, d, s1, s2, s3, s4, v1, v2]) : tBk.rd w c.bank [b1, b2, lk] ∧ tSt.rd w c.st [a, b, d, s1, s2, s3, s4] ∧ tSt.row w v1 c.past ∧ tInt.row w v2 c.knows ∧ i = .int .i64 c.id := by
  obtain ⟨_, _, _, _, _, _, _, _, e, h1, h2, h3, h4, _⟩ := h
  simp only [List.cons.injEq, and_true] at e
  obtain ⟨rfl, rfl, rfl, rfl, rfl, rfl, rfl, rfl, rfl, rfl, rfl, rfl, rfl⟩ := e
  exact ⟨h1, h2, h3, h4, rfl⟩
set_option maxHeartbeats 1600000 in
theorem lwChain_c (w : World) (c : Ch) (c1 c2 : List Value) (h1 : tCh.rd w c c1) (h2 : tCh.rd w c c2) (hs : c.st.sent = []) (hp : c.past = []) : Calls Try.prog 18 #[.agg c1.toArray, .agg c2.toArray] w (Ret (.bool true) w) := by
  obtain ⟨id, bk, st, past, knows⟩ := c
  simp only at hs hp
  subst hp
  obtain ⟨b1, b2, s1, s2, s3, s4, v1, v2, rfl, h11, h12, h13, h14, _⟩ := h1
  obtain ⟨d1, d2, r1, r2, r3, r4, u1, u2, rfl, h21, h22, h23, h24, _⟩ := h2
  obtain ⟨A1, c1, e1⟩ := h13.val
  obtain ⟨A2, c2, e2⟩ := h23.val
  have e1 : v1 = .slice A1 0 c1 := e1
  have e2 : u1 = .slice A2 0 c2 := e2
  subst e1 e2
  have HS := Lib.hid hs
  clear hs
  have S := Sep.start w
  go_enter Try.func18, Try.ntmps18
  go_wp2_with (first
    | (go_at_call 20; (with_reducible refine (lwBank_c _ bk _ _ (tBk.fr S.frame h11) (tBk.fr S.frame h21)).mono ?_); rintro e w9 ⟨rfl, f9⟩; replace S := S.fr f9; clear f9)
    | (go_at_call 22; (with_reducible refine (lwState_c _ st _ _ (tSt.fr S.frame h12) (tSt.fr S.frame h22) HS.out).mono ?_); rintro e w9 ⟨rfl, f9⟩; replace S := S.fr f9; clear f9)
    | (go_at_call 66; (with_reducible refine (lwInts_c _ _ _ _ (h14.fr S.frame) (h24.fr S.frame)).mono ?_); rintro e w9 ⟨rfl, f9⟩; replace S := S.fr f9; clear f9)
    | ((with_reducible refine gate_box rfl ?_); refine aBx S ?_; clear S; intro g9 w9 z9 S) | ((with_reducible refine gate_alloc rfl ?_); refine aAl S ?_; clear S; intro g9 w9 z9 S) | ((with_reducible refine gate_load rfl ?_); first | refine aLd S ?_ | refine aPt S ?_ | refine aL1 S ?_) | ((with_reducible refine gate_st rfl ?_); (first | refine aS1 S ?_ | refine aSt S ?_ | refine aSp S ?_); clear S; intro w9 S))
  refine wp_loop_rounds 1 ?_
  rw [rounds_succ]
  go_wp2_with (first | ((with_reducible refine gate_box rfl ?_); refine aBx S ?_; clear S; intro g9 w9 z9 S) | ((with_reducible refine gate_alloc rfl ?_); refine aAl S ?_; clear S; intro g9 w9 z9 S) | ((with_reducible refine gate_load rfl ?_); first | refine aLd S ?_ | refine aPt S ?_ | refine aL1 S ?_) | ((with_reducible refine gate_st rfl ?_); (first | refine aS1 S ?_ | refine aSt S ?_ | refine aSp S ?_); clear S; intro w9 S))
  go_ret
  exact ⟨rfl, S.frame⟩
def DrewN (n : Int) (w : World) : Ending → World → Prop := fun e w' => ∃ x : Int, e = .returned (.int .i64 x) ∧ 0 ≤ x ∧ x < n ∧ Fr w w'
set_option maxHeartbeats 1600000 in
theorem DrawChainNew_c (w : World) (v : Value) (bs : List Int) (hr : tByte.row w v bs) : Calls Try.prog 15 #[v] w (DrewN 4 w) := by
  obtain ⟨A1, c1, rfl⟩ := hr.val
  go_enter Try.func15, Try.ntmps15
  go_wp2_with (first
    | (go_at_call 59; (with_reducible refine (l6Open_c _ _ bs hr).mono ?_); rintro e w9 ⟨g, v9, bs9, rfl, hg, kr, hr9, hl9, f0⟩)
    | (go_at_call 60; (with_reducible refine (pick_c w _ g v9 bs9 _ _ kr f0 hg hr9 hl9 (by omega) (by omega) (by omega)).mono ?_); rintro e w8 ⟨x, rfl, x0, x1, k9, c9⟩))
  go_ret
  exact ⟨x, rfl, x0, x1, f0.own c9 (fun q hq => by have := List.mem_singleton.1 hq; omega)⟩
theorem okNew : okCh (newCh 1) = true ∧ okCh (newCh 2) = true := by decide
end Go.Proofs.Ytapdcgjccckjeaa
namespace Go.Proofs.Ytapdcgjccckjeaa
set_option maxRecDepth 100000
set_option linter.unusedVariables false
set_option linter.unusedSimpArgs false
open Go.RowKit Go.Deep

theorem list_of {α : Type} {p : Nat → α → Prop} : ∀ n : Nat, (∀ i, i < n → ∃ y, p i y) → ∃ xs : List α, xs.length = n ∧ ∀ i (h : i < xs.length), p i xs[i]
  | 0, _ => ⟨[], rfl, fun i h => by simp at h⟩
  | n + 1, h => by
    obtain ⟨xs, h1, h2⟩ := list_of n (fun i hi => h i (by omega))
    obtain ⟨y, hy⟩ := h n (by omega)
    refine ⟨xs ++ [y], by simp [h1], fun i hi => ?_⟩
    by_cases hlt : i < xs.length
    · rw [List.getElem_append_left hlt]
      exact h2 i hlt
    · have e : i = xs.length := by simp at hi; omega
      subst e
      rw [List.getElem_append_right (Nat.le_refl _)]
      simp only [Nat.sub_self, List.getElem_cons_zero]
      rw [h1]
      exact hy
section
variable {α H : Type} {enc : TypeId × Value → H} {P : Program} {w : World} {spare : Nat → Bool} {held : Bool} {d : Ty α} {t e fuel : Nat} {cs : List Value} {x : DataW H × List MemPlace}
/-- A kind of data, by its type: whatever can be read reads as some datum. -/
def Opens (enc : TypeId × Value → H) (P : Program) (w : World) (spare : Nat → Bool) (held : Bool) (t : Nat) (d : Ty α) : Prop :=
  ∀ fuel cs x, DataW.trod enc P w 0 spare held fuel t cs = some x → ∃ y, d.rd w y cs
def OpensRow (enc : TypeId × Value → H) (P : Program) (w : World) (spare : Nat → Bool) (held : Bool) (t : Nat) (d : Ty α) : Prop :=
  ∀ fuel cs x, DataW.trod enc P w 0 spare held fuel t cs = some x → ∃ v xs, cs = [v] ∧ d.row w v xs
theorem opens_row (ht : P.underlying t = some (.slice e)) (hC : P.cellsOf e = d.sz) (hd : Opens enc P w spare held e d) : OpensRow enc P w spare held t d := by
  intro fuel cs x h
  rcases open_slice ht h with ⟨h0, _⟩ | ⟨a, len, cap, m, n, D, Pl, hcs, hb, hl, hm, hmm, hx, hi⟩
  · exact ⟨_, [], h0, Ty.row.nil d w⟩
  · have hlm : len ≤ m := by rw [hmm]; split <;> omega
    obtain ⟨xs, h1, h2⟩ := list_of (p := fun i y => ∃ cs', d.rd w y cs' ∧ ∀ j (hj : j < cs'.length), w.cell? (a.add (i * d.sz + j)) = some cs'[j]) len (fun i hi' => by
      obtain ⟨cs', hc, ht'⟩ := hi i (by omega)
      obtain ⟨y, hy⟩ := hd _ _ _ ht'
      rw [hC] at hc
      obtain ⟨_, hcl, hat⟩ := World.cells?_some hc
      refine ⟨y, cs', hy, fun j hj => ?_⟩
      rw [← add_add, hat j (by omega), List.getElem?_eq_getElem hj])
    subst h1
    refine ⟨_, xs, hcs, some a, cap, rfl, ⟨hl, fun h => by cases h⟩, by simp only [maxLen] at hm; omega, fun k hk => ?_⟩
    obtain ⟨cs', hy, hc⟩ := h2 k hk
    exact ⟨a, cs', rfl, hy, hc⟩
theorem opens_int (ht : P.underlying t = some (.int .i64)) : Opens enc P w spare held t tInt := by
  intro fuel cs x h
  obtain ⟨n, rfl, _⟩ := DataW.trod_int ht h
  exact ⟨n, rfl⟩
theorem opens_bool (ht : P.underlying t = some .bool) : Opens enc P w spare held t tBool := by
  intro fuel cs x h
  obtain ⟨b, rfl, _⟩ := DataW.trod_bool ht h
  exact ⟨b, rfl⟩
/-- An int's own reading, with its range. -/
theorem read_int (ht : P.underlying t = some (.int .i64)) (h : DataW.trod enc P w 0 spare held fuel t cs = some x) : ∃ n, cs = [.int .i64 n] ∧ -9223372036854775808 ≤ n ∧ n ≤ 9223372036854775807 := by
  obtain ⟨n, rfl, _, hw⟩ := DataW.trod_int ht h
  refine ⟨n, rfl, ?_⟩
  simp [Lit.wf, IntKind.min, IntKind.max, IntKind.bits, IntKind.signed] at hw
  omega
end
end Go.Proofs.Ytapdcgjccckjeaa
namespace Go.Proofs.Ytapdcgjccckjeaa
set_option maxRecDepth 100000
set_option linter.unusedVariables false
set_option linter.unusedSimpArgs false
open Go.RowKit Go.Deep
theorem bcells5 : Try.prog.cellsOf 5 = 1 := by kernel_rfl
section
variable {H : Type} {enc : TypeId × Value → H} {w : World} {spare : Nat → Bool} {held : Bool}
theorem opens_byte : Opens enc Try.prog w spare held 5 tByte := by
  intro fuel cs x h
  obtain ⟨n, rfl, _, hw⟩ := DataW.trod_int Try.underlying5 h
  refine ⟨n, rfl, ?_⟩
  simp [Lit.wf, IntKind.min, IntKind.max, IntKind.bits, IntKind.signed] at hw
  omega
theorem opens_bytes : OpensRow enc Try.prog w spare held 22 tByte := opens_row Try.underlying22 bcells5 opens_byte
end
end Go.Proofs.Ytapdcgjccckjeaa
namespace Go.Proofs.Ytapdcgjccckjeaa
set_option maxRecDepth 100000
set_option linter.unusedVariables false
set_option linter.unusedSimpArgs false
open Go.RowKit Go.Deep
theorem pcells3 : Try.prog.cellsOf 3 = 1 := by kernel_rfl
theorem pcells86 : Try.prog.cellsOf 86 = 7 := by kernel_rfl
theorem pfield_some {α : Type} {xs : List α} {n i : Nat} {r : Option α} (hl : xs.length = n) (hi : i < n) (h : r = xs[i]?) : ∃ y, r = some y := ⟨xs[i]'(by omega), by rw [h, List.getElem?_eq_getElem]⟩
section
variable {H : Type} {enc : TypeId × Value → H} {w : World} {spare : Nat → Bool} {held : Bool}
theorem opens_Pk : Opens enc Try.prog w spare held 86 tPk := by
  intro fuel cs x h
  obtain ⟨xs, n, _, _, hlen, hxl, hf⟩ := DataW.trod_struct Try.underlying86 h
  rw [pcells86] at hlen
  match cs, hlen with
  | [c0, c1, c2, c3, c4, c5, c6], _ =>
    obtain ⟨y0, h0⟩ := pfield_some hxl (by decide) (hf 0 _ rfl)
    obtain ⟨y1, h1⟩ := pfield_some hxl (by decide) (hf 1 _ rfl)
    obtain ⟨y2, h2⟩ := pfield_some hxl (by decide) (hf 2 _ rfl)
    obtain ⟨y3, h3⟩ := pfield_some hxl (by decide) (hf 3 _ rfl)
    obtain ⟨y4, h4⟩ := pfield_some hxl (by decide) (hf 4 _ rfl)
    obtain ⟨y5, h5⟩ := pfield_some hxl (by decide) (hf 5 _ rfl)
    obtain ⟨y6, h6⟩ := pfield_some hxl (by decide) (hf 6 _ rfl)
    simp only [List.getElem_toArray, List.getElem_cons_zero, List.getElem_cons_succ, pcells3, List.drop_zero, List.drop_succ_cons, List.take_succ_cons, List.take_zero] at h0 h1 h2 h3 h4 h5 h6
    obtain ⟨x0, e0, l0, m0⟩ := read_int Try.underlying3 h0
    cases e0
    obtain ⟨x1, e1, l1, m1⟩ := read_int Try.underlying3 h1
    cases e1
    obtain ⟨x2, e2, l2, m2⟩ := read_int Try.underlying3 h2
    cases e2
    obtain ⟨x3, e3, l3, m3⟩ := read_int Try.underlying3 h3
    cases e3
    obtain ⟨x4, e4, l4, m4⟩ := read_int Try.underlying3 h4
    cases e4
    obtain ⟨x5, e5, l5, m5⟩ := read_int Try.underlying3 h5
    cases e5
    obtain ⟨x6, e6, l6, m6⟩ := read_int Try.underlying3 h6
    cases e6
    exact ⟨⟨x0, x1, x2, x3, x4, x5, x6⟩, rfl, ⟨l0, m0⟩, ⟨l1, m1⟩, ⟨l2, m2⟩, ⟨l3, m3⟩, ⟨l4, m4⟩, ⟨l5, m5⟩, ⟨l6, m6⟩⟩
end
end Go.Proofs.Ytapdcgjccckjeaa
namespace Go.Proofs.Ytapdcgjccckjeaa
set_option maxRecDepth 100000
set_option linter.unusedVariables false
set_option linter.unusedSimpArgs false
open Go.RowKit Go.Deep
theorem pcells4 : Try.prog.cellsOf 4 = 1 := by kernel_rfl
theorem pcells24 : Try.prog.cellsOf 24 = 1 := by kernel_rfl
theorem pcells28 : Try.prog.cellsOf 28 = 1 := by kernel_rfl
theorem pcells53 : Try.prog.cellsOf 53 = 1 := by kernel_rfl
theorem pcells55 : Try.prog.cellsOf 55 = 7 := by kernel_rfl
section
variable {H : Type} {enc : TypeId × Value → H} {w : World} {spare : Nat → Bool} {held : Bool}
theorem opens_sints : OpensRow enc Try.prog w spare held 24 tInt := opens_row Try.underlying24 pcells3 (opens_int Try.underlying3)
theorem opens_bools : OpensRow enc Try.prog w spare held 28 tBool := opens_row Try.underlying28 pcells4 (opens_bool Try.underlying4)
theorem opens_pks : OpensRow enc Try.prog w spare held 53 tPk := opens_row Try.underlying53 pcells86 opens_Pk
theorem opens_St : Opens enc Try.prog w spare held 55 tSt := by
  intro fuel cs x h
  obtain ⟨xs, n, _, _, hlen, hxl, hf⟩ := DataW.trod_struct Try.underlying55 h
  rw [pcells55] at hlen
  match cs, hlen with
  | [c0, c1, c2, c3, c4, c5, c6], _ =>
    obtain ⟨y0, h0⟩ := pfield_some hxl (by decide) (hf 0 _ rfl)
    obtain ⟨y1, h1⟩ := pfield_some hxl (by decide) (hf 1 _ rfl)
    obtain ⟨y2, h2⟩ := pfield_some hxl (by decide) (hf 2 _ rfl)
    obtain ⟨y3, h3⟩ := pfield_some hxl (by decide) (hf 3 _ rfl)
    obtain ⟨y4, h4⟩ := pfield_some hxl (by decide) (hf 4 _ rfl)
    obtain ⟨y5, h5⟩ := pfield_some hxl (by decide) (hf 5 _ rfl)
    obtain ⟨y6, h6⟩ := pfield_some hxl (by decide) (hf 6 _ rfl)
    simp only [List.getElem_toArray, List.getElem_cons_zero, List.getElem_cons_succ, pcells3, pcells24, pcells28, pcells53, List.drop_zero, List.drop_succ_cons, List.take_succ_cons, List.take_zero] at h0 h1 h2 h3 h4 h5 h6
    obtain ⟨x0, e0, l0, m0⟩ := read_int Try.underlying3 h0
    cases e0
    obtain ⟨x1, e1, l1, m1⟩ := read_int Try.underlying3 h1
    cases e1
    obtain ⟨x2, e2, l2, m2⟩ := read_int Try.underlying3 h2
    cases e2
    obtain ⟨v3, ps, e3, r3⟩ := opens_pks _ _ _ h3
    cases e3
    obtain ⟨v4, bs, e4, r4⟩ := opens_bools _ _ _ h4
    cases e4
    obtain ⟨v5, bs2, e5, r5⟩ := opens_bools _ _ _ h5
    cases e5
    obtain ⟨v6, gs, e6, r6⟩ := opens_sints _ _ _ h6
    cases e6
    exact ⟨⟨x0, x1, x2, ps, bs, bs2, gs⟩, _, _, _, _, rfl, r3, r4, r5, r6, ⟨l0, m0⟩, ⟨l1, m1⟩, l2, m2⟩
end
end Go.Proofs.Ytapdcgjccckjeaa
namespace Go.Proofs.Ytapdcgjccckjeaa
set_option maxRecDepth 100000
set_option linter.unusedVariables false
set_option linter.unusedSimpArgs false
open Go.RowKit Go.Deep

theorem cells3 : Try.prog.cellsOf 3 = 1 := by kernel_rfl
theorem cells24 : Try.prog.cellsOf 24 = 1 := by kernel_rfl
theorem cells52 : Try.prog.cellsOf 52 = 3 := by kernel_rfl
section
variable {H : Type} {enc : TypeId × Value → H} {w : World} {spare : Nat → Bool} {held : Bool}
theorem opens_ints : OpensRow enc Try.prog w spare held 24 tInt := opens_row Try.underlying24 cells3 (opens_int Try.underlying3)
theorem field_some {α : Type} {xs : List α} {n i : Nat} {r : Option α} (hl : xs.length = n) (hi : i < n) (h : r = xs[i]?) : ∃ y, r = some y := ⟨xs[i]'(by omega), by rw [h, List.getElem?_eq_getElem]⟩
theorem opens_Bk : Opens enc Try.prog w spare held 52 tBk := by
  intro fuel cs x h
  obtain ⟨xs, n, _, _, hlen, hxl, hf⟩ := DataW.trod_struct Try.underlying52 h
  rw [cells52] at hlen
  match cs, hlen with
  | [c0, c1, c2], _ =>
    obtain ⟨y0, h0⟩ := field_some hxl (by decide) (hf 0 _ rfl)
    obtain ⟨y1, h1⟩ := field_some hxl (by decide) (hf 1 _ rfl)
    obtain ⟨y2, h2⟩ := field_some hxl (by decide) (hf 2 _ rfl)
    simp only [List.getElem_toArray, List.getElem_cons_zero, List.getElem_cons_succ, cells3, cells24, List.drop_zero, List.drop_succ_cons, List.take_succ_cons, List.take_zero] at h0 h1 h2
    obtain ⟨v0, own, e0, r0⟩ := opens_ints _ _ _ h0
    obtain ⟨v1, notes, e1, r1⟩ := opens_ints _ _ _ h1
    obtain ⟨l, e2, l0, l1⟩ := read_int Try.underlying3 h2
    cases e0
    cases e1
    cases e2
    exact ⟨⟨own, notes, l⟩, _, _, rfl, r0, r1, l0, l1⟩
end
end Go.Proofs.Ytapdcgjccckjeaa
namespace Go.Proofs.Ytapdcgjccckjeaa
set_option maxRecDepth 100000
set_option linter.unusedVariables false
set_option linter.unusedSimpArgs false
open Go.RowKit Go.Deep
theorem pcells52 : Try.prog.cellsOf 52 = 3 := by kernel_rfl
theorem pcells56 : Try.prog.cellsOf 56 = 1 := by kernel_rfl
theorem pcells58 : Try.prog.cellsOf 58 = 13 := by kernel_rfl
section
variable {H : Type} {enc : TypeId × Value → H} {w : World} {spare : Nat → Bool} {held : Bool}
theorem opens_sts : OpensRow enc Try.prog w spare held 56 tSt := opens_row Try.underlying56 pcells55 opens_St
theorem opens_Ch : Opens enc Try.prog w spare held 58 tCh := by
  intro fuel cs x h
  obtain ⟨xs, n, _, _, hlen, hxl, hf⟩ := DataW.trod_struct Try.underlying58 h
  rw [pcells58] at hlen
  match cs, hlen with
  | [c0, c1, c2, c3, c4, c5, c6, c7, c8, c9, c10, c11, c12], _ =>
    obtain ⟨y0, h0⟩ := pfield_some hxl (by decide) (hf 0 _ rfl)
    obtain ⟨y1, h1⟩ := pfield_some hxl (by decide) (hf 1 _ rfl)
    obtain ⟨y2, h2⟩ := pfield_some hxl (by decide) (hf 2 _ rfl)
    obtain ⟨y3, h3⟩ := pfield_some hxl (by decide) (hf 3 _ rfl)
    obtain ⟨y4, h4⟩ := pfield_some hxl (by decide) (hf 4 _ rfl)
    simp only [List.getElem_toArray, List.getElem_cons_zero, List.getElem_cons_succ, pcells3, pcells24, pcells52, pcells55, pcells56, List.drop_zero, List.drop_succ_cons, List.take_succ_cons, List.take_zero] at h0 h1 h2 h3 h4
    obtain ⟨x0, e0, l0, m0⟩ := read_int Try.underlying3 h0
    cases e0
    obtain ⟨b, hb⟩ := opens_Bk _ _ _ h1
    obtain ⟨s, hs⟩ := opens_St _ _ _ h2
    obtain ⟨v3, ps, e3, r3⟩ := opens_sts _ _ _ h3
    cases e3
    obtain ⟨v4, ks, e4, r4⟩ := opens_sints _ _ _ h4
    cases e4
    have hb' := hb
    have hs' := hs
    obtain ⟨b1, b2, eb, _⟩ := hb'
    cases eb
    obtain ⟨s1, s2, s3, s4, es, _⟩ := hs'
    cases es
    exact ⟨⟨x0, b, s, ps, ks⟩, _, _, _, _, _, _, _, _, rfl, hb, hs, r3, r4, l0, m0⟩
end
end Go.Proofs.Ytapdcgjccckjeaa
namespace Go.Proofs.Ytapdcgjccckjeaa
set_option maxRecDepth 100000
set_option linter.unusedVariables false
set_option linter.unusedSimpArgs false
open Go.RowKit Go.Deep
theorem pcells64 : Try.prog.cellsOf 64 = 1 := by kernel_rfl
theorem pcells66 : Try.prog.cellsOf 66 = 1 := by kernel_rfl
section
variable {H : Type} {enc : TypeId × Value → H} {w : World} {spare : Nat → Bool} {held : Bool}
theorem opens_chs : OpensRow enc Try.prog w spare held 64 tCh := opens_row Try.underlying64 pcells58 opens_Ch
theorem opens_Wd : Opens enc Try.prog w spare held 66 tWd := by
  intro fuel cs x h
  obtain ⟨xs, n, _, _, hlen, hxl, hf⟩ := DataW.trod_struct Try.underlying66 h
  rw [pcells66] at hlen
  match cs, hlen with
  | [c0], _ =>
    obtain ⟨y0, h0⟩ := pfield_some hxl (by decide) (hf 0 _ rfl)
    simp only [List.getElem_toArray, List.getElem_cons_zero, List.getElem_cons_succ, pcells64, List.drop_zero, List.drop_succ_cons, List.take_succ_cons, List.take_zero] at h0
    obtain ⟨v, cs, e, r⟩ := opens_chs _ _ _ h0
    cases e
    exact ⟨⟨cs⟩, _, rfl, r⟩
end
end Go.Proofs.Ytapdcgjccckjeaa
namespace Go.Proofs.Ytapdcgjccckjeaa
set_option maxRecDepth 100000
set_option linter.unusedVariables false
set_option linter.unusedSimpArgs false
open Go.RowKit
theorem Sep.shapeNew {F0 : List Nat} {w0 w : World} {L : List Asrt} {i : Int} {cs : List Value} {F : List Nat} (S : Sep F0 w0 L w) (h : aOwn tCh (newCh i) cs F ∈ L) : ∃ A1 c1 A2 c2 A3 c3 A4 c4 A5 c5 A6 c6 A7 c7 A8 c8, cs = [.int .i64 i, .slice A1 3 c1, .slice A2 3 c2, .int .i64 0, .int .i64 0, .int .i64 1, .int .i64 0, .slice A3 0 c3, .slice A4 0 c4, .slice A5 0 c5, .slice A6 8 c6, .slice A7 0 c7, .slice A8 0 c8] := S.shapeCh h
set_option maxRecDepth 100000 in
set_option maxHeartbeats 6400000 in
theorem FnChainNew_c (w : World) (v0 : Value) (bs0 : List Int) (h0 : tByte.row w v0 bs0) : Calls Try.prog 3 #[v0] w (Ret (.bool true) w) := by
  obtain ⟨A1, c1, rfl⟩ := h0.val
  have hm := h0.le
  have S := Sep.start w
  by_cases hbig : (1048576 : Int) < bs0.length
  · go_enter Try.func3, Try.ntmps3
    go_wp2
    go_ret
    exact ⟨rfl, S.frame⟩
  have C0 := Lib.hid (show chNewV 0 = (nilCh, false) from if_neg (by omega))
  have C1 := Lib.hid (show chNewV 1 = (newCh 1, true) from if_pos (.inl rfl))
  have C2 := Lib.hid (show chNewV 2 = (newCh 2, true) from if_pos (.inr rfl))
  have C3 := Lib.hid (show chNewV 3 = (nilCh, false) from if_neg (by omega))
  have OK1 := Lib.hid okNew.1
  have OK2 := Lib.hid okNew.2
  have w0 : IntKind.i64.wrap 0 = 0 := by decide
  have w1 : IntKind.i64.wrap (0 + 0) = 0 := by decide
  go_enter Try.func3, Try.ntmps3
  go_wp2_with (go_at_call 15; (with_reducible refine (DrawChainNew_c _ _ bs0 h0).mono ?_); rintro e w9 ⟨x, rfl, x0, x1, f9⟩; replace S := S.fr f9; clear f9)
  clear h0 hm hbig
  rcases (by omega : x = 0 ∨ x = 1 ∨ x = 2 ∨ x = 3) with rfl | rfl | rfl | rfl
  · go_wp2_with (first
      | (go_at_call 16; (with_reducible refine (sChainNew_e _ 0 (by unfold I64; omega) C0.out).mono ?_); rintro e w9 ⟨ca, Fa, rfl, h9, n9, b9, f9⟩; replace S := S.new (aOwn tCh _ ca Fa) h9 n9 b9 f9; clear h9 n9 b9 f9)
      | (go_at_call 17; (with_reducible refine (ChainNew_e _ 0 (by unfold I64; omega) C0.out).mono ?_); rintro e w9 ⟨cb, Fb, rfl, h9, n9, b9, f9⟩; replace S := S.new (aOwn tCh _ cb Fb) h9 n9 b9 f9; clear h9 n9 b9 f9)
      | (go_at_call 18; (with_reducible refine (lwChain_c _ nilCh _ _ (by first | exact S.rd memA | exact S.rdIn memA) (by first | exact S.rd memA | exact S.rdIn memA) rfl rfl).mono ?_); rintro e w9 ⟨rfl, f9⟩; replace S := S.fr f9; clear f9)
      | ((with_reducible refine gate_box rfl ?_); refine aBx S ?_; clear S; intro g9 w9 z9 S) | ((with_reducible refine gate_alloc rfl ?_); refine aAl S ?_; clear S; intro g9 w9 z9 S) | ((with_reducible refine gate_load rfl ?_); first | refine aLd S ?_ | refine aPt S ?_ | refine aL1 S ?_) | ((with_reducible refine gate_st rfl ?_); (first | refine aS1 S ?_ | refine aSt S ?_ | refine aSp S ?_); clear S; intro w9 S))
    go_ret
    exact ⟨rfl, S.frame⟩
  · go_wp2_with (first
      | (go_at_call 16; (with_reducible refine (sChainNew_e _ 1 (by unfold I64; omega) C1.out).mono ?_); rintro e w9 ⟨ca, Fa, rfl, h9, n9, b9, f9⟩; replace S := S.new (aOwn tCh _ ca Fa) h9 n9 b9 f9; clear h9 n9 b9 f9)
      | (go_at_call 17; (with_reducible refine (ChainNew_e _ 1 (by unfold I64; omega) C1.out).mono ?_); rintro e w9 ⟨cb, Fb, rfl, h9, n9, b9, f9⟩; replace S := S.new (aOwn tCh _ cb Fb) h9 n9 b9 f9; clear h9 n9 b9 f9; obtain ⟨A1, c1, A2, c2, A3, c3, A4, c4, A5, c5, A6, c6, A7, c7, A8, c8, rfl⟩ := S.shapeNew (i := 1) memA)
      | (go_at_call 18; (with_reducible refine (lwChain_c _ (newCh 1) _ _ (by first | exact S.rd memA | exact S.rdIn memA) (by first | exact S.rd memA | exact S.rdIn memA) rfl rfl).mono ?_); rintro e w9 ⟨rfl, f9⟩; replace S := S.fr f9; clear f9)
      | ((with_reducible refine gate_box rfl ?_); refine aBx S ?_; clear S; intro g9 w9 z9 S) | ((with_reducible refine gate_alloc rfl ?_); refine aAl S ?_; clear S; intro g9 w9 z9 S) | ((with_reducible refine gate_load rfl ?_); first | refine aLd S ?_ | refine aPt S ?_ | refine aL1 S ?_) | ((with_reducible refine gate_st rfl ?_); (first | refine aS1 S ?_ | refine aSt S ?_ | refine aSp S ?_); clear S; intro w9 S))
    have S0 := S
    refine wp_region_noPanic ?_
    refine wp_region_held_drew (S := Sep _ _ _) (by kernel_rfl) S0.drew (fun _ => ?_)
    replace S := S.drew
    clear S0
    refine tk 0 ?_
    (try simp only [Act.put, List.setIfInBounds_toArray, List.set_cons_zero, List.set_cons_succ])
    refine rdy1 1 (fun K hK => ?_)
    go_simp; (skip; go_at_call 19; (with_reducible refine (ChainOk_r _ (newCh 1) _ (by first | exact S.rd memA | exact S.rdIn memA) OK1.out).mono ?_); rintro e w9 ⟨rfl, f9⟩; replace S := S.fr f9; clear f9)
    (first | refine hK.out _ _ (S.sub subA) (fun _ => ?_) | (go_wp2_with fail; refine hK.out _ _ (S.sub subA) (fun _ => ?_)))
    clear hK K
    (try simp only [Act.put, List.setIfInBounds_toArray, List.set_cons_zero, List.set_cons_succ])
    refine tk 2 ?_
    (try simp only [Act.put, List.setIfInBounds_toArray, List.set_cons_zero, List.set_cons_succ])
    refine tk 3 ?_
    (try simp only [Act.put, List.setIfInBounds_toArray, List.set_cons_zero, List.set_cons_succ])
    refine tk 4 ?_
    (try simp only [Act.put, List.setIfInBounds_toArray, List.set_cons_zero, List.set_cons_succ])
    refine tk 5 ?_
    (try simp only [Act.put, List.setIfInBounds_toArray, List.set_cons_zero, List.set_cons_succ])
    refine tk 6 ?_
    (try simp only [Act.put, List.setIfInBounds_toArray, List.set_cons_zero, List.set_cons_succ])
    refine tk 7 ?_
    (try simp only [Act.put, List.setIfInBounds_toArray, List.set_cons_zero, List.set_cons_succ])
    refine tk 8 ?_
    (try simp only [Act.put, List.setIfInBounds_toArray, List.set_cons_zero, List.set_cons_succ])
    refine tk 9 ?_
    (try simp only [Act.put, List.setIfInBounds_toArray, List.set_cons_zero, List.set_cons_succ])
    refine tk 10 ?_
    (try simp only [Act.put, List.setIfInBounds_toArray, List.set_cons_zero, List.set_cons_succ])
    refine tk 12 ?_
    (try simp only [Act.put, List.setIfInBounds_toArray, List.set_cons_zero, List.set_cons_succ])
    refine tk 13 ?_
    (try simp only [Act.put, List.setIfInBounds_toArray, List.set_cons_zero, List.set_cons_succ])
    refine rdys [11, 14] ?_
    refine rdc 11 (fun K hK => ?_) ?_
    · go_simp
      (first | refine hK.out _ _ (S.sub subA) (fun _ => ?_) | (go_wp2_with fail; refine hK.out _ _ (S.sub subA) (fun _ => ?_)))
      clear hK K
      (try simp only [Act.put, List.setIfInBounds_toArray, List.set_cons_zero, List.set_cons_succ])
      refine rdy1 14 (fun K hK => ?_)
      go_simp
      (first | refine hK.out _ _ (S.sub subA) (fun _ => ?_) | (go_wp2_with fail; refine hK.out _ _ (S.sub subA) (fun _ => ?_)))
      clear hK K
      (try simp only [Act.put, List.setIfInBounds_toArray, List.set_cons_zero, List.set_cons_succ])
      refine tk 15 ?_
      (try simp only [Act.put, List.setIfInBounds_toArray, List.set_cons_zero, List.set_cons_succ])
      refine tk 16 ?_
      (try simp only [Act.put, List.setIfInBounds_toArray, List.set_cons_zero, List.set_cons_succ])
      refine tk 17 ?_
      (try simp only [Act.put, List.setIfInBounds_toArray, List.set_cons_zero, List.set_cons_succ])
      refine tk 18 ?_
      (try simp only [Act.put, List.setIfInBounds_toArray, List.set_cons_zero, List.set_cons_succ])
      refine tk 19 ?_
      (try simp only [Act.put, List.setIfInBounds_toArray, List.set_cons_zero, List.set_cons_succ])
      refine tk 20 ?_
      (try simp only [Act.put, List.setIfInBounds_toArray, List.set_cons_zero, List.set_cons_succ])
      refine rdy1 21 (fun K hK => ?_)
      go_simp; (skip; go_at_call 21; (with_reducible refine (BankNew_c _).mono ?_); rintro e w9 ⟨cs9, F9, rfl, h9, n9, b9, f9⟩; replace S := S.new (aOwn tBk _ cs9 F9) h9 n9 b9 f9; clear h9 n9 b9 f9)
      (first | refine hK.out _ _ (S.sub subA) (fun _ => ?_) | (go_wp2_with fail; refine hK.out _ _ (S.sub subA) (fun _ => ?_)))
      clear hK K
      (try simp only [Act.put, List.setIfInBounds_toArray, List.set_cons_zero, List.set_cons_succ])
      refine rdy1 22 (fun K hK => ?_)
      go_simp; (skip; go_at_call 20; (with_reducible refine (lwBank_c _ newBk _ _ (chRd_parts (S.rd (d := tCh) (x := newCh 1) (F := Fb) memA)).1 (S.rd (d := tBk) (x := newBk) memA)).mono ?_); rintro e w9 ⟨rfl, f9⟩; replace S := S.fr f9; clear f9)
      (first | refine hK.out _ _ (S.sub subA) (fun _ => ?_) | (go_wp2_with fail; refine hK.out _ _ (S.sub subA) (fun _ => ?_)))
      clear hK K
      (try simp only [Act.put, List.setIfInBounds_toArray, List.set_cons_zero, List.set_cons_succ])
      refine tk 23 ?_
      (try simp only [Act.put, List.setIfInBounds_toArray, List.set_cons_zero, List.set_cons_succ])
      refine tk 24 ?_
      (try simp only [Act.put, List.setIfInBounds_toArray, List.set_cons_zero, List.set_cons_succ])
      refine tk 25 ?_
      (try simp only [Act.put, List.setIfInBounds_toArray, List.set_cons_zero, List.set_cons_succ])
      refine tk 26 ?_
      (try simp only [Act.put, List.setIfInBounds_toArray, List.set_cons_zero, List.set_cons_succ])
      refine rdy1 27 (fun K hK => ?_)
      go_simp; (skip; go_at_call 23; (with_reducible refine (StateNew_c _).mono ?_); rintro e w9 ⟨cs9, F9, rfl, h9, n9, b9, f9⟩; replace S := S.new (aOwn tSt _ cs9 F9) h9 n9 b9 f9; clear h9 n9 b9 f9)
      (first | refine hK.out _ _ (S.sub subA) (fun _ => ?_) | (go_wp2_with fail; refine hK.out _ _ (S.sub subA) (fun _ => ?_)))
      clear hK K
      (try simp only [Act.put, List.setIfInBounds_toArray, List.set_cons_zero, List.set_cons_succ])
      refine rdy1 28 (fun K hK => ?_)
      go_simp; (skip; go_at_call 22; (with_reducible refine (lwState_c _ newSt _ _ (chRd_parts (S.rd (d := tCh) (x := newCh 1) (F := Fb) memA)).2.1 (S.rd (d := tSt) (x := newSt) memA) rfl).mono ?_); rintro e w9 ⟨rfl, f9⟩; replace S := S.fr f9; clear f9)
      (first | refine hK.out _ _ (S.sub subA) (fun _ => ?_) | (go_wp2_with fail; refine hK.out _ _ (S.sub subA) (fun _ => ?_)))
      clear hK K
      (try simp only [Act.put, List.setIfInBounds_toArray, List.set_cons_zero, List.set_cons_succ])
      refine tk 29 ?_
      (try simp only [Act.put, List.setIfInBounds_toArray, List.set_cons_zero, List.set_cons_succ])
      refine tk 30 ?_
      (try simp only [Act.put, List.setIfInBounds_toArray, List.set_cons_zero, List.set_cons_succ])
      refine wpAnyH_done (by kernel_rfl) ?_ _
      refine NoPanic.normal ?_
      go_wp2_with (first | ((with_reducible refine gate_box rfl ?_); refine aBx S ?_; clear S; intro g9 w9 z9 S) | ((with_reducible refine gate_alloc rfl ?_); refine aAl S ?_; clear S; intro g9 w9 z9 S) | ((with_reducible refine gate_load rfl ?_); first | refine aLd S ?_ | refine aPt S ?_ | refine aL1 S ?_) | ((with_reducible refine gate_st rfl ?_); (first | refine aS1 S ?_ | refine aSt S ?_ | refine aSp S ?_); clear S; intro w9 S))
      go_ret
      exact ⟨rfl, S.frame⟩
    refine rdc 14 (fun K hK => ?_) AllReadyH.nil
    go_simp
    (first | refine hK.out _ _ (S.sub subA) (fun _ => ?_) | (go_wp2_with fail; refine hK.out _ _ (S.sub subA) (fun _ => ?_)))
    clear hK K
    (try simp only [Act.put, List.setIfInBounds_toArray, List.set_cons_zero, List.set_cons_succ])
    refine rdy1 11 (fun K hK => ?_)
    go_simp
    (first | refine hK.out _ _ (S.sub subA) (fun _ => ?_) | (go_wp2_with fail; refine hK.out _ _ (S.sub subA) (fun _ => ?_)))
    clear hK K
    (try simp only [Act.put, List.setIfInBounds_toArray, List.set_cons_zero, List.set_cons_succ])
    refine tk 15 ?_
    (try simp only [Act.put, List.setIfInBounds_toArray, List.set_cons_zero, List.set_cons_succ])
    refine tk 16 ?_
    (try simp only [Act.put, List.setIfInBounds_toArray, List.set_cons_zero, List.set_cons_succ])
    refine tk 17 ?_
    (try simp only [Act.put, List.setIfInBounds_toArray, List.set_cons_zero, List.set_cons_succ])
    refine tk 18 ?_
    (try simp only [Act.put, List.setIfInBounds_toArray, List.set_cons_zero, List.set_cons_succ])
    refine tk 19 ?_
    (try simp only [Act.put, List.setIfInBounds_toArray, List.set_cons_zero, List.set_cons_succ])
    refine tk 20 ?_
    (try simp only [Act.put, List.setIfInBounds_toArray, List.set_cons_zero, List.set_cons_succ])
    refine rdy1 21 (fun K hK => ?_)
    go_simp; (skip; go_at_call 21; (with_reducible refine (BankNew_c _).mono ?_); rintro e w9 ⟨cs9, F9, rfl, h9, n9, b9, f9⟩; replace S := S.new (aOwn tBk _ cs9 F9) h9 n9 b9 f9; clear h9 n9 b9 f9)
    (first | refine hK.out _ _ (S.sub subA) (fun _ => ?_) | (go_wp2_with fail; refine hK.out _ _ (S.sub subA) (fun _ => ?_)))
    clear hK K
    (try simp only [Act.put, List.setIfInBounds_toArray, List.set_cons_zero, List.set_cons_succ])
    refine rdy1 22 (fun K hK => ?_)
    go_simp; (skip; go_at_call 20; (with_reducible refine (lwBank_c _ newBk _ _ (chRd_parts (S.rd (d := tCh) (x := newCh 1) (F := Fb) memA)).1 (S.rd (d := tBk) (x := newBk) memA)).mono ?_); rintro e w9 ⟨rfl, f9⟩; replace S := S.fr f9; clear f9)
    (first | refine hK.out _ _ (S.sub subA) (fun _ => ?_) | (go_wp2_with fail; refine hK.out _ _ (S.sub subA) (fun _ => ?_)))
    clear hK K
    (try simp only [Act.put, List.setIfInBounds_toArray, List.set_cons_zero, List.set_cons_succ])
    refine tk 23 ?_
    (try simp only [Act.put, List.setIfInBounds_toArray, List.set_cons_zero, List.set_cons_succ])
    refine tk 24 ?_
    (try simp only [Act.put, List.setIfInBounds_toArray, List.set_cons_zero, List.set_cons_succ])
    refine tk 25 ?_
    (try simp only [Act.put, List.setIfInBounds_toArray, List.set_cons_zero, List.set_cons_succ])
    refine tk 26 ?_
    (try simp only [Act.put, List.setIfInBounds_toArray, List.set_cons_zero, List.set_cons_succ])
    refine rdy1 27 (fun K hK => ?_)
    go_simp; (skip; go_at_call 23; (with_reducible refine (StateNew_c _).mono ?_); rintro e w9 ⟨cs9, F9, rfl, h9, n9, b9, f9⟩; replace S := S.new (aOwn tSt _ cs9 F9) h9 n9 b9 f9; clear h9 n9 b9 f9)
    (first | refine hK.out _ _ (S.sub subA) (fun _ => ?_) | (go_wp2_with fail; refine hK.out _ _ (S.sub subA) (fun _ => ?_)))
    clear hK K
    (try simp only [Act.put, List.setIfInBounds_toArray, List.set_cons_zero, List.set_cons_succ])
    refine rdy1 28 (fun K hK => ?_)
    go_simp; (skip; go_at_call 22; (with_reducible refine (lwState_c _ newSt _ _ (chRd_parts (S.rd (d := tCh) (x := newCh 1) (F := Fb) memA)).2.1 (S.rd (d := tSt) (x := newSt) memA) rfl).mono ?_); rintro e w9 ⟨rfl, f9⟩; replace S := S.fr f9; clear f9)
    (first | refine hK.out _ _ (S.sub subA) (fun _ => ?_) | (go_wp2_with fail; refine hK.out _ _ (S.sub subA) (fun _ => ?_)))
    clear hK K
    (try simp only [Act.put, List.setIfInBounds_toArray, List.set_cons_zero, List.set_cons_succ])
    refine tk 29 ?_
    (try simp only [Act.put, List.setIfInBounds_toArray, List.set_cons_zero, List.set_cons_succ])
    refine tk 30 ?_
    (try simp only [Act.put, List.setIfInBounds_toArray, List.set_cons_zero, List.set_cons_succ])
    refine wpAnyH_done (by kernel_rfl) ?_ _
    refine NoPanic.normal ?_
    go_wp2_with (first | ((with_reducible refine gate_box rfl ?_); refine aBx S ?_; clear S; intro g9 w9 z9 S) | ((with_reducible refine gate_alloc rfl ?_); refine aAl S ?_; clear S; intro g9 w9 z9 S) | ((with_reducible refine gate_load rfl ?_); first | refine aLd S ?_ | refine aPt S ?_ | refine aL1 S ?_) | ((with_reducible refine gate_st rfl ?_); (first | refine aS1 S ?_ | refine aSt S ?_ | refine aSp S ?_); clear S; intro w9 S))
    go_ret
    exact ⟨rfl, S.frame⟩
  · go_wp2_with (first
      | (go_at_call 16; (with_reducible refine (sChainNew_e _ 2 (by unfold I64; omega) C2.out).mono ?_); rintro e w9 ⟨ca, Fa, rfl, h9, n9, b9, f9⟩; replace S := S.new (aOwn tCh _ ca Fa) h9 n9 b9 f9; clear h9 n9 b9 f9)
      | (go_at_call 17; (with_reducible refine (ChainNew_e _ 2 (by unfold I64; omega) C2.out).mono ?_); rintro e w9 ⟨cb, Fb, rfl, h9, n9, b9, f9⟩; replace S := S.new (aOwn tCh _ cb Fb) h9 n9 b9 f9; clear h9 n9 b9 f9; obtain ⟨A1, c1, A2, c2, A3, c3, A4, c4, A5, c5, A6, c6, A7, c7, A8, c8, rfl⟩ := S.shapeNew (i := 2) memA)
      | (go_at_call 18; (with_reducible refine (lwChain_c _ (newCh 2) _ _ (by first | exact S.rd memA | exact S.rdIn memA) (by first | exact S.rd memA | exact S.rdIn memA) rfl rfl).mono ?_); rintro e w9 ⟨rfl, f9⟩; replace S := S.fr f9; clear f9)
      | ((with_reducible refine gate_box rfl ?_); refine aBx S ?_; clear S; intro g9 w9 z9 S) | ((with_reducible refine gate_alloc rfl ?_); refine aAl S ?_; clear S; intro g9 w9 z9 S) | ((with_reducible refine gate_load rfl ?_); first | refine aLd S ?_ | refine aPt S ?_ | refine aL1 S ?_) | ((with_reducible refine gate_st rfl ?_); (first | refine aS1 S ?_ | refine aSt S ?_ | refine aSp S ?_); clear S; intro w9 S))
    have S0 := S
    refine wp_region_noPanic ?_
    refine wp_region_held_drew (S := Sep _ _ _) (by kernel_rfl) S0.drew (fun _ => ?_)
    replace S := S.drew
    clear S0
    refine tk 0 ?_
    (try simp only [Act.put, List.setIfInBounds_toArray, List.set_cons_zero, List.set_cons_succ])
    refine rdy1 1 (fun K hK => ?_)
    go_simp; (skip; go_at_call 19; (with_reducible refine (ChainOk_r _ (newCh 2) _ (by first | exact S.rd memA | exact S.rdIn memA) OK2.out).mono ?_); rintro e w9 ⟨rfl, f9⟩; replace S := S.fr f9; clear f9)
    (first | refine hK.out _ _ (S.sub subA) (fun _ => ?_) | (go_wp2_with fail; refine hK.out _ _ (S.sub subA) (fun _ => ?_)))
    clear hK K
    (try simp only [Act.put, List.setIfInBounds_toArray, List.set_cons_zero, List.set_cons_succ])
    refine tk 2 ?_
    (try simp only [Act.put, List.setIfInBounds_toArray, List.set_cons_zero, List.set_cons_succ])
    refine tk 3 ?_
    (try simp only [Act.put, List.setIfInBounds_toArray, List.set_cons_zero, List.set_cons_succ])
    refine tk 4 ?_
    (try simp only [Act.put, List.setIfInBounds_toArray, List.set_cons_zero, List.set_cons_succ])
    refine tk 5 ?_
    (try simp only [Act.put, List.setIfInBounds_toArray, List.set_cons_zero, List.set_cons_succ])
    refine tk 6 ?_
    (try simp only [Act.put, List.setIfInBounds_toArray, List.set_cons_zero, List.set_cons_succ])
    refine tk 7 ?_
    (try simp only [Act.put, List.setIfInBounds_toArray, List.set_cons_zero, List.set_cons_succ])
    refine tk 8 ?_
    (try simp only [Act.put, List.setIfInBounds_toArray, List.set_cons_zero, List.set_cons_succ])
    refine tk 9 ?_
    (try simp only [Act.put, List.setIfInBounds_toArray, List.set_cons_zero, List.set_cons_succ])
    refine tk 10 ?_
    (try simp only [Act.put, List.setIfInBounds_toArray, List.set_cons_zero, List.set_cons_succ])
    refine tk 12 ?_
    (try simp only [Act.put, List.setIfInBounds_toArray, List.set_cons_zero, List.set_cons_succ])
    refine tk 13 ?_
    (try simp only [Act.put, List.setIfInBounds_toArray, List.set_cons_zero, List.set_cons_succ])
    refine rdys [11, 14] ?_
    refine rdc 11 (fun K hK => ?_) ?_
    · go_simp
      (first | refine hK.out _ _ (S.sub subA) (fun _ => ?_) | (go_wp2_with fail; refine hK.out _ _ (S.sub subA) (fun _ => ?_)))
      clear hK K
      (try simp only [Act.put, List.setIfInBounds_toArray, List.set_cons_zero, List.set_cons_succ])
      refine rdy1 14 (fun K hK => ?_)
      go_simp
      (first | refine hK.out _ _ (S.sub subA) (fun _ => ?_) | (go_wp2_with fail; refine hK.out _ _ (S.sub subA) (fun _ => ?_)))
      clear hK K
      (try simp only [Act.put, List.setIfInBounds_toArray, List.set_cons_zero, List.set_cons_succ])
      refine tk 15 ?_
      (try simp only [Act.put, List.setIfInBounds_toArray, List.set_cons_zero, List.set_cons_succ])
      refine tk 16 ?_
      (try simp only [Act.put, List.setIfInBounds_toArray, List.set_cons_zero, List.set_cons_succ])
      refine tk 17 ?_
      (try simp only [Act.put, List.setIfInBounds_toArray, List.set_cons_zero, List.set_cons_succ])
      refine tk 18 ?_
      (try simp only [Act.put, List.setIfInBounds_toArray, List.set_cons_zero, List.set_cons_succ])
      refine tk 19 ?_
      (try simp only [Act.put, List.setIfInBounds_toArray, List.set_cons_zero, List.set_cons_succ])
      refine tk 20 ?_
      (try simp only [Act.put, List.setIfInBounds_toArray, List.set_cons_zero, List.set_cons_succ])
      refine rdy1 21 (fun K hK => ?_)
      go_simp; (skip; go_at_call 21; (with_reducible refine (BankNew_c _).mono ?_); rintro e w9 ⟨cs9, F9, rfl, h9, n9, b9, f9⟩; replace S := S.new (aOwn tBk _ cs9 F9) h9 n9 b9 f9; clear h9 n9 b9 f9)
      (first | refine hK.out _ _ (S.sub subA) (fun _ => ?_) | (go_wp2_with fail; refine hK.out _ _ (S.sub subA) (fun _ => ?_)))
      clear hK K
      (try simp only [Act.put, List.setIfInBounds_toArray, List.set_cons_zero, List.set_cons_succ])
      refine rdy1 22 (fun K hK => ?_)
      go_simp; (skip; go_at_call 20; (with_reducible refine (lwBank_c _ newBk _ _ (chRd_parts (S.rd (d := tCh) (x := newCh 2) (F := Fb) memA)).1 (S.rd (d := tBk) (x := newBk) memA)).mono ?_); rintro e w9 ⟨rfl, f9⟩; replace S := S.fr f9; clear f9)
      (first | refine hK.out _ _ (S.sub subA) (fun _ => ?_) | (go_wp2_with fail; refine hK.out _ _ (S.sub subA) (fun _ => ?_)))
      clear hK K
      (try simp only [Act.put, List.setIfInBounds_toArray, List.set_cons_zero, List.set_cons_succ])
      refine tk 23 ?_
      (try simp only [Act.put, List.setIfInBounds_toArray, List.set_cons_zero, List.set_cons_succ])
      refine tk 24 ?_
      (try simp only [Act.put, List.setIfInBounds_toArray, List.set_cons_zero, List.set_cons_succ])
      refine tk 25 ?_
      (try simp only [Act.put, List.setIfInBounds_toArray, List.set_cons_zero, List.set_cons_succ])
      refine tk 26 ?_
      (try simp only [Act.put, List.setIfInBounds_toArray, List.set_cons_zero, List.set_cons_succ])
      refine rdy1 27 (fun K hK => ?_)
      go_simp; (skip; go_at_call 23; (with_reducible refine (StateNew_c _).mono ?_); rintro e w9 ⟨cs9, F9, rfl, h9, n9, b9, f9⟩; replace S := S.new (aOwn tSt _ cs9 F9) h9 n9 b9 f9; clear h9 n9 b9 f9)
      (first | refine hK.out _ _ (S.sub subA) (fun _ => ?_) | (go_wp2_with fail; refine hK.out _ _ (S.sub subA) (fun _ => ?_)))
      clear hK K
      (try simp only [Act.put, List.setIfInBounds_toArray, List.set_cons_zero, List.set_cons_succ])
      refine rdy1 28 (fun K hK => ?_)
      go_simp; (skip; go_at_call 22; (with_reducible refine (lwState_c _ newSt _ _ (chRd_parts (S.rd (d := tCh) (x := newCh 2) (F := Fb) memA)).2.1 (S.rd (d := tSt) (x := newSt) memA) rfl).mono ?_); rintro e w9 ⟨rfl, f9⟩; replace S := S.fr f9; clear f9)
      (first | refine hK.out _ _ (S.sub subA) (fun _ => ?_) | (go_wp2_with fail; refine hK.out _ _ (S.sub subA) (fun _ => ?_)))
      clear hK K
      (try simp only [Act.put, List.setIfInBounds_toArray, List.set_cons_zero, List.set_cons_succ])
      refine tk 29 ?_
      (try simp only [Act.put, List.setIfInBounds_toArray, List.set_cons_zero, List.set_cons_succ])
      refine tk 30 ?_
      (try simp only [Act.put, List.setIfInBounds_toArray, List.set_cons_zero, List.set_cons_succ])
      refine wpAnyH_done (by kernel_rfl) ?_ _
      refine NoPanic.normal ?_
      go_wp2_with (first | ((with_reducible refine gate_box rfl ?_); refine aBx S ?_; clear S; intro g9 w9 z9 S) | ((with_reducible refine gate_alloc rfl ?_); refine aAl S ?_; clear S; intro g9 w9 z9 S) | ((with_reducible refine gate_load rfl ?_); first | refine aLd S ?_ | refine aPt S ?_ | refine aL1 S ?_) | ((with_reducible refine gate_st rfl ?_); (first | refine aS1 S ?_ | refine aSt S ?_ | refine aSp S ?_); clear S; intro w9 S))
      go_ret
      exact ⟨rfl, S.frame⟩
    refine rdc 14 (fun K hK => ?_) AllReadyH.nil
    go_simp
    (first | refine hK.out _ _ (S.sub subA) (fun _ => ?_) | (go_wp2_with fail; refine hK.out _ _ (S.sub subA) (fun _ => ?_)))
    clear hK K
    (try simp only [Act.put, List.setIfInBounds_toArray, List.set_cons_zero, List.set_cons_succ])
    refine rdy1 11 (fun K hK => ?_)
    go_simp
    (first | refine hK.out _ _ (S.sub subA) (fun _ => ?_) | (go_wp2_with fail; refine hK.out _ _ (S.sub subA) (fun _ => ?_)))
    clear hK K
    (try simp only [Act.put, List.setIfInBounds_toArray, List.set_cons_zero, List.set_cons_succ])
    refine tk 15 ?_
    (try simp only [Act.put, List.setIfInBounds_toArray, List.set_cons_zero, List.set_cons_succ])
    refine tk 16 ?_
    (try simp only [Act.put, List.setIfInBounds_toArray, List.set_cons_zero, List.set_cons_succ])
    refine tk 17 ?_
    (try simp only [Act.put, List.setIfInBounds_toArray, List.set_cons_zero, List.set_cons_succ])
    refine tk 18 ?_
    (try simp only [Act.put, List.setIfInBounds_toArray, List.set_cons_zero, List.set_cons_succ])
    refine tk 19 ?_
    (try simp only [Act.put, List.setIfInBounds_toArray, List.set_cons_zero, List.set_cons_succ])
    refine tk 20 ?_
    (try simp only [Act.put, List.setIfInBounds_toArray, List.set_cons_zero, List.set_cons_succ])
    refine rdy1 21 (fun K hK => ?_)
    go_simp; (skip; go_at_call 21; (with_reducible refine (BankNew_c _).mono ?_); rintro e w9 ⟨cs9, F9, rfl, h9, n9, b9, f9⟩; replace S := S.new (aOwn tBk _ cs9 F9) h9 n9 b9 f9; clear h9 n9 b9 f9)
    (first | refine hK.out _ _ (S.sub subA) (fun _ => ?_) | (go_wp2_with fail; refine hK.out _ _ (S.sub subA) (fun _ => ?_)))
    clear hK K
    (try simp only [Act.put, List.setIfInBounds_toArray, List.set_cons_zero, List.set_cons_succ])
    refine rdy1 22 (fun K hK => ?_)
    go_simp; (skip; go_at_call 20; (with_reducible refine (lwBank_c _ newBk _ _ (chRd_parts (S.rd (d := tCh) (x := newCh 2) (F := Fb) memA)).1 (S.rd (d := tBk) (x := newBk) memA)).mono ?_); rintro e w9 ⟨rfl, f9⟩; replace S := S.fr f9; clear f9)
    (first | refine hK.out _ _ (S.sub subA) (fun _ => ?_) | (go_wp2_with fail; refine hK.out _ _ (S.sub subA) (fun _ => ?_)))
    clear hK K
    (try simp only [Act.put, List.setIfInBounds_toArray, List.set_cons_zero, List.set_cons_succ])
    refine tk 23 ?_
    (try simp only [Act.put, List.setIfInBounds_toArray, List.set_cons_zero, List.set_cons_succ])
    refine tk 24 ?_
    (try simp only [Act.put, List.setIfInBounds_toArray, List.set_cons_zero, List.set_cons_succ])
    refine tk 25 ?_
    (try simp only [Act.put, List.setIfInBounds_toArray, List.set_cons_zero, List.set_cons_succ])
    refine tk 26 ?_
    (try simp only [Act.put, List.setIfInBounds_toArray, List.set_cons_zero, List.set_cons_succ])
    refine rdy1 27 (fun K hK => ?_)
    go_simp; (skip; go_at_call 23; (with_reducible refine (StateNew_c _).mono ?_); rintro e w9 ⟨cs9, F9, rfl, h9, n9, b9, f9⟩; replace S := S.new (aOwn tSt _ cs9 F9) h9 n9 b9 f9; clear h9 n9 b9 f9)
    (first | refine hK.out _ _ (S.sub subA) (fun _ => ?_) | (go_wp2_with fail; refine hK.out _ _ (S.sub subA) (fun _ => ?_)))
    clear hK K
    (try simp only [Act.put, List.setIfInBounds_toArray, List.set_cons_zero, List.set_cons_succ])
    refine rdy1 28 (fun K hK => ?_)
    go_simp; (skip; go_at_call 22; (with_reducible refine (lwState_c _ newSt _ _ (chRd_parts (S.rd (d := tCh) (x := newCh 2) (F := Fb) memA)).2.1 (S.rd (d := tSt) (x := newSt) memA) rfl).mono ?_); rintro e w9 ⟨rfl, f9⟩; replace S := S.fr f9; clear f9)
    (first | refine hK.out _ _ (S.sub subA) (fun _ => ?_) | (go_wp2_with fail; refine hK.out _ _ (S.sub subA) (fun _ => ?_)))
    clear hK K
    (try simp only [Act.put, List.setIfInBounds_toArray, List.set_cons_zero, List.set_cons_succ])
    refine tk 29 ?_
    (try simp only [Act.put, List.setIfInBounds_toArray, List.set_cons_zero, List.set_cons_succ])
    refine tk 30 ?_
    (try simp only [Act.put, List.setIfInBounds_toArray, List.set_cons_zero, List.set_cons_succ])
    refine wpAnyH_done (by kernel_rfl) ?_ _
    refine NoPanic.normal ?_
    go_wp2_with (first | ((with_reducible refine gate_box rfl ?_); refine aBx S ?_; clear S; intro g9 w9 z9 S) | ((with_reducible refine gate_alloc rfl ?_); refine aAl S ?_; clear S; intro g9 w9 z9 S) | ((with_reducible refine gate_load rfl ?_); first | refine aLd S ?_ | refine aPt S ?_ | refine aL1 S ?_) | ((with_reducible refine gate_st rfl ?_); (first | refine aS1 S ?_ | refine aSt S ?_ | refine aSp S ?_); clear S; intro w9 S))
    go_ret
    exact ⟨rfl, S.frame⟩
  · go_wp2_with (first
      | (go_at_call 16; (with_reducible refine (sChainNew_e _ 3 (by unfold I64; omega) C3.out).mono ?_); rintro e w9 ⟨ca, Fa, rfl, h9, n9, b9, f9⟩; replace S := S.new (aOwn tCh _ ca Fa) h9 n9 b9 f9; clear h9 n9 b9 f9)
      | (go_at_call 17; (with_reducible refine (ChainNew_e _ 3 (by unfold I64; omega) C3.out).mono ?_); rintro e w9 ⟨cb, Fb, rfl, h9, n9, b9, f9⟩; replace S := S.new (aOwn tCh _ cb Fb) h9 n9 b9 f9; clear h9 n9 b9 f9)
      | (go_at_call 18; (with_reducible refine (lwChain_c _ nilCh _ _ (by first | exact S.rd memA | exact S.rdIn memA) (by first | exact S.rd memA | exact S.rdIn memA) rfl rfl).mono ?_); rintro e w9 ⟨rfl, f9⟩; replace S := S.fr f9; clear f9)
      | ((with_reducible refine gate_box rfl ?_); refine aBx S ?_; clear S; intro g9 w9 z9 S) | ((with_reducible refine gate_alloc rfl ?_); refine aAl S ?_; clear S; intro g9 w9 z9 S) | ((with_reducible refine gate_load rfl ?_); first | refine aLd S ?_ | refine aPt S ?_ | refine aL1 S ?_) | ((with_reducible refine gate_st rfl ?_); (first | refine aS1 S ?_ | refine aSt S ?_ | refine aSp S ?_); clear S; intro w9 S))
    go_ret
    exact ⟨rfl, S.frame⟩
end Go.Proofs.Ytapdcgjccckjeaa
