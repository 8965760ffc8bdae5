/- The texts Wd, ChHelp, WdM, PkOk, PkRd, StOk1, Fate. -/
import Derived.Test.YtapdcgjccckjeaaPkFnChainNewC
namespace Go.Proofs.Ytapdcgjccckjeaa
set_option maxRecDepth 100000
set_option linter.unusedVariables false
set_option linter.unusedSimpArgs false
open Go.RowKit
def cntChS : List Ch → Nat
  | [] => 0
  | s :: ss => cntCh s + cntChS ss
theorem cntChS_append : ∀ (a b : List Ch), cntChS (a ++ b) = cntChS a + cntChS b
  | [], b => by simp [cntChS]
  | s :: a, b => by simp [cntChS, cntChS_append a b]; omega

theorem cntChS_take (xs : List Ch) (k : Nat) (h : k < xs.length) : cntChS (xs.take (k + 1)) = cntChS (xs.take k) + cntCh xs[k] := by
  rw [List.take_succ_eq_append_getElem h, cntChS_append]
  simp [cntChS]

theorem cntChS_le (xs : List Ch) (k : Nat) : cntChS (xs.take k) ≤ cntChS xs := by
  conv => rhs; rw [← List.take_append_drop k xs, cntChS_append]
  omega

theorem cntChS_get (xs : List Ch) (k : Nat) (h : k < xs.length) : cntCh xs[k] ≤ cntChS xs := by
  have h1 := cntChS_take xs k h
  have h2 := cntChS_le xs (k + 1)
  omega

set_option maxRecDepth 100000 in
set_option maxHeartbeats 1600000 in
theorem eqChainS_c (w : World) (v u : Value) (xs : List Ch) (h1 : tCh.row w v xs) (h2 : tCh.row w u xs) : Calls Try.prog 81 #[v, u] w (Ret (.bool true) w) := by
  obtain ⟨A1, c1, rfl⟩ := h1.val
  obtain ⟨A2, c2, rfl⟩ := h2.val
  have hm := h1.le
  have S := Sep.start w
  go_enter Try.func81, Try.ntmps81
  go_wp2
  go_loopw [5] (fun i wr => ∃ k : Nat, k ≤ xs.length ∧ i = .int .i64 k ∧ Sep [] w [] wr) (fun i _ => xs.length - (intOf i).toNat)
  case atStart => exact ⟨0, Nat.zero_le _, rfl, S⟩
  case round =>
    clear S
    obtain ⟨k, hk, rfl, S⟩ := hrel
    by_cases hlt : k < xs.length
    · obtain ⟨ad1, cs1, rfl, r1, g1⟩ := cellsAt_of_row h1 k hlt
      obtain ⟨ad2, cs2, rfl, r2, g2⟩ := cellsAt_of_row h2 k hlt
      have G1 := Lib.hid (fun (W : World) (f : Fr w W) => g1.fr f)
      have G2 := Lib.hid (fun (W : World) (f : Fr w W) => g2.fr f)
      have R1 := Lib.hid (fun (W : World) (f : Fr w W) => tCh.fr f r1)
      have R2 := Lib.hid (fun (W : World) (f : Fr w W) => tCh.fr f r2)
      have N1 := Lib.hid (tCh.len r1)
      have N2 := Lib.hid (tCh.len r2)
      clear g1 g2 r1 r2
      have p0 : (0 : Int) ≤ (k : Int) := Int.natCast_nonneg _
      have p1 : (k : Int) < (xs.length : Int) := by omega
      go_wp2
      have S0 := S
      refine wp_region_noPanic ?_
      refine wp_region_held_drew (S := Sep _ _ _) (by kernel_rfl) S0.drew (fun _ => ?_)
      replace S := S.drew
      clear S0
      refine tk 0 ?_
      (try simp only [Act.put, List.setIfInBounds_toArray, List.set_cons_zero, List.set_cons_succ])
      refine tk 1 ?_
      (try simp only [Act.put, List.setIfInBounds_toArray, List.set_cons_zero, List.set_cons_succ])
      refine tk 2 ?_
      (try simp only [Act.put, List.setIfInBounds_toArray, List.set_cons_zero, List.set_cons_succ])
      refine tk 3 ?_ (hy := by exact yRw (fun w' h => G1.out _ h.frame) (hn := N1.out))
      (try simp only [Act.put, List.setIfInBounds_toArray, List.set_cons_zero, List.set_cons_succ])
      refine tk 4 ?_
      (try simp only [Act.put, List.setIfInBounds_toArray, List.set_cons_zero, List.set_cons_succ])
      refine tk 5 ?_
      (try simp only [Act.put, List.setIfInBounds_toArray, List.set_cons_zero, List.set_cons_succ])
      refine tk 6 ?_
      (try simp only [Act.put, List.setIfInBounds_toArray, List.set_cons_zero, List.set_cons_succ])
      refine tk 7 ?_ (hy := by exact yRw (fun w' h => G2.out _ h.frame) (hn := N2.out))
      (try simp only [Act.put, List.setIfInBounds_toArray, List.set_cons_zero, List.set_cons_succ])
      refine rdy1 8 (fun K hK => ?_)
      go_simp; (skip; go_at_call 24; (with_reducible refine (eqChain_c _ xs[k] _ _ (R1.out _ S.frame) (R2.out _ S.frame)).mono ?_); rintro e w9 ⟨rfl, f9⟩; replace S := S.fr f9; clear f9)
      (first | refine hK.out _ _ (S.sub subA) (fun _ => ?_) | (go_wp2_with fail; refine hK.out _ _ (S.sub subA) (fun _ => ?_)))
      clear hK K
      (try simp only [Act.put, List.setIfInBounds_toArray, List.set_cons_zero, List.set_cons_succ])
      refine tk 9 ?_
      (try simp only [Act.put, List.setIfInBounds_toArray, List.set_cons_zero, List.set_cons_succ])
      refine wpAnyH_done (by kernel_rfl) ?_ _
      refine NoPanic.normal ?_
      go_wp2
      go_roundw
      case rel => exact ⟨k + 1, by omega, by go_num, S⟩
      case measure => simp [intOf]; omega
    · go_wp2
      go_ret
      exact ⟨rfl, S.frame⟩
set_option maxRecDepth 100000 in
set_option maxHeartbeats 1600000 in
theorem szChainS_c (w : World) (v : Value) (xs : List Ch) (left : Int) (h1 : tCh.row w v xs) (hl0 : 0 ≤ left) (hl1 : left ≤ 1048576) :
    Calls Try.prog 92 #[v, .int .i64 left] w (Ret (.int .i64 (szr left (xs.length + cntChS xs))) w) := by
  obtain ⟨A1, c1, rfl⟩ := h1.val
  have hm := h1.le
  have S := Sep.start w
  by_cases e0 : (xs.length : Int) ≤ left
  case neg =>
    have e : szr left (xs.length + cntChS xs) = -1 := szr_no (by omega)
    rw [e]
    clear e
    go_enter Try.func92, Try.ntmps92
    go_wp2
    go_ret
    exact ⟨rfl, S.frame⟩
  have pw : IntKind.i64.wrap (left - (xs.length : Int)) = left - (xs.length : Int) := IntWalk.i64_in _ (by omega)
  have t0 : decide (left - (xs.length : Int) < 0) = false := decide_eq_false (by omega)
  go_enter Try.func92, Try.ntmps92
  go_wp2
  go_loopw [1, 5] (fun l i wr => ∃ k : Nat, k ≤ xs.length ∧ i = .int .i64 k ∧ l = .int .i64 (left - xs.length - cntChS (xs.take k)) ∧ (xs.length + cntChS (xs.take k) : Int) ≤ left ∧ Sep [] w [] wr) (fun _ i _ => xs.length - (intOf i).toNat)
  case atStart => exact ⟨0, Nat.zero_le _, rfl, by simp [cntChS], by simpa [cntChS] using e0, S⟩
  case round =>
    clear S pw t0
    obtain ⟨k, hk, rfl, rfl, hle, S⟩ := hrel
    by_cases hlt : k < xs.length
    · obtain ⟨ad1, cs1, rfl, r1, g1⟩ := cellsAt_of_row h1 k hlt
      have N1 := Lib.hid (tCh.len r1)
      have TK := Lib.hid (cntChS_take xs k hlt)
      have LE := Lib.hid (cntChS_le xs (k + 1))
      have p0 : (0 : Int) ≤ (k : Int) := Int.natCast_nonneg _
      have p1 : (k : Int) < (xs.length : Int) := by omega
      have G1 := Lib.hid (fun (W : World) (f : Fr w W) => g1.fr f)
      have R1 := Lib.hid (fun (W : World) (f : Fr w W) => tCh.fr f r1)
      clear g1 r1
      by_cases e1 : (cntCh xs[k] : Int) ≤ left - xs.length - cntChS (xs.take k)
      · have s1 := Lib.hid (szr_yes e1)
        have t1 : decide (left - (xs.length : Int) - (cntChS (xs.take k) : Int) - (cntCh xs[k] : Int) < 0) = false := decide_eq_false (by omega)
        go_wp2_with (first
          | ((with_reducible refine gate_dst (N := 21) rfl ?_); refine aRw (G1.out _ S.frame) ?_ (hn := N1.out))
          | (go_at_call 32; (with_reducible refine (szChain_c _ xs[k] _ (left - (xs.length : Int) - (cntChS (xs.take k) : Int)) (R1.out _ S.frame) (by omega) (by omega)).mono ?_); rintro e w9 ⟨rfl, f9⟩; rw [s1.out]; replace S := S.fr f9; clear f9))
        go_roundw
        case rel => exact ⟨k + 1, by omega, by go_num, by rw [TK.out]; congr 1; omega, by rw [TK.out]; omega, S⟩
        case measure => simp [intOf]; omega
      · have s1 := Lib.hid (szr_no e1)
        have e : szr left (xs.length + cntChS xs) = -1 := szr_no (by have := TK.out; have := LE.out; omega)
        have E := Lib.hid e
        clear e
        go_wp2_with (first
          | ((with_reducible refine gate_dst (N := 21) rfl ?_); refine aRw (G1.out _ S.frame) ?_ (hn := N1.out))
          | (go_at_call 32; (with_reducible refine (szChain_c _ xs[k] _ (left - (xs.length : Int) - (cntChS (xs.take k) : Int)) (R1.out _ S.frame) (by omega) (by omega)).mono ?_); rintro e w9 ⟨rfl, f9⟩; rw [s1.out]; replace S := S.fr f9; clear f9))
        go_ret
        exact ⟨ret_int E.out.symm, S.frame⟩
    · obtain rfl : k = xs.length := by omega
      rw [List.take_length] at hle ⊢
      have e : szr left (xs.length + cntChS xs) = left - xs.length - cntChS xs := by rw [szr_yes (by omega)]; omega
      have E := Lib.hid e
      clear e
      go_wp2
      go_ret
      exact ⟨ret_int E.out.symm, S.frame⟩

def zChS : Ch := ⟨0, ⟨[], [], 0⟩, ⟨0, 0, 0, [], [], [], []⟩, [], []⟩
theorem zChS_own (w : World) : tCh.own w zChS [.int .i64 0, .slice none 0 0, .slice none 0 0, .int .i64 0, .int .i64 0, .int .i64 0, .int .i64 0, .slice none 0 0, .slice none 0 0, .slice none 0 0, .slice none 0 0, .slice none 0 0, .slice none 0 0] [] :=
  ⟨.slice none 0 0, .slice none 0 0, .slice none 0 0, .slice none 0 0, .slice none 0 0, .slice none 0 0, .slice none 0 0, .slice none 0 0, [], [], [], [], rfl, rfl, ⟨.slice none 0 0, .slice none 0 0, [], [], rfl, rfl, Ty.orow.nil _ _ _, Ty.orow.nil _ _ _, by unfold I64; simp [zChS]⟩, zStS_own w, Ty.orow.nil _ _ _, Ty.orow.nil _ _ _, by unfold I64; simp [zChS]⟩

set_option maxHeartbeats 1600000 in
theorem toChainS_c (w : World) (v : Value) (xs : List Ch) (h1 : tCh.row w v xs) (hm : xs.length ≤ 1048576) (hc : cntChS xs ≤ 1048576) : Calls Try.prog 93 #[v] w (RetRow tCh 33 xs w) := by
  obtain ⟨A1, c1, rfl⟩ := h1.val
  have S := Sep.start w
  go_enter Try.func93, Try.ntmps93
  go_wp2_with (first
    | ((with_reducible refine gate_dst (N := 7) rfl ?_); refine aMk (d := tCh) zChS S zChS_own (Nat.le_trans hm (by decide)) ?_; clear S; intro g7 w9 z9 S))
  go_loopw [4] (fun i wr => ∃ (k : Nat) (F : List Nat), k ≤ xs.length ∧ i = .int .i64 k ∧ Sep [] w [aRow tCh 33 (xs.take k ++ List.replicate (xs.length - k) zChS) (.slice (some ⟨g7, 0, none⟩) xs.length xs.length) F] wr) (fun i _ => xs.length - (intOf i).toNat)
  case atStart => exact ⟨0, _, Nat.zero_le _, rfl, by simpa using S⟩
  case round =>
    clear S
    obtain ⟨k, F, hk, rfl, S⟩ := hrel
    by_cases hlt : k < xs.length
    · obtain ⟨ad1, cs1, rfl, r1, g1⟩ := cellsAt_of_row h1 k hlt
      have N1 := Lib.hid (tCh.len r1)
      have G1 := Lib.hid (fun (W : World) (f : Fr w W) => g1.fr f)
      have R1 := Lib.hid (fun (W : World) (f : Fr w W) => tCh.fr f r1)
      have CN := Lib.hid (Nat.le_trans (cntChS_get xs k hlt) hc)
      have T0 := Lib.hid (show (xs.take k).length = k by simp; omega)
      have TR := Lib.hid (take_rep1 xs zChS k hlt)
      rw [take_rep xs zChS k hlt] at S
      clear g1 r1
      have p0 : (0 : Int) ≤ (k : Int) := Int.natCast_nonneg _
      have p1 : (k : Int) < (xs.length : Int) := by omega
      go_wp2_with (first
        | ((with_reducible refine gate_dst (N := 19) rfl ?_); refine aRw (G1.out _ S.frame) ?_ (hn := N1.out))
        | (go_at_call 34; (with_reducible refine (toChain_c _ xs[k] _ (R1.out _ S.frame) CN.out).mono ?_); rintro e w9 ⟨cs9, F9, rfl, h9, n9, b9, f9⟩; replace S := S.new (aOwn tCh _ cs9 F9) h9 n9 b9 f9; clear h9 n9 b9 f9)
        | ((with_reducible refine gate_st rfl ?_); refine aEl S delA delA T0.out ?_; clear S; intro F9 w9 S))
      rw [TR.out] at S
      go_roundw
      case rel => exact ⟨k + 1, _, by omega, by go_num, S⟩
      case measure => simp [intOf]; omega
    · obtain rfl : k = xs.length := by omega
      rw [List.take_length, Nat.sub_self, List.replicate_zero, List.append_nil] at S
      go_wp2
      go_ret
      exact S.retRow List.mem_cons_self

structure Wd where
  chains : List Ch
def tWd : Ty Wd where
  sz := 1
  rd := fun w x cs => ∃ v, cs = [v] ∧ tCh.row w v x.chains
  own := fun w x cs F => ∃ v, cs = [v] ∧ tCh.orow 33 w v x.chains F
  len := by rintro w x cs ⟨v, rfl, _⟩; rfl
  fr := by rintro w w' x cs f ⟨v, rfl, h⟩; exact ⟨v, rfl, h.fr f⟩
  own_rd := by rintro w x cs F ⟨v, rfl, h⟩; exact ⟨v, rfl, h.row⟩
  own_lt := by rintro w x cs F ⟨v, rfl, h⟩ g hg; exact h.lt g hg
  keep := by rintro w w' x cs F ⟨v, rfl, h⟩ hk; exact ⟨v, rfl, h.keep hk⟩
  one := by
    rintro w x cs F ⟨v, rfl, h⟩ u hu
    rw [List.mem_singleton.1 hu]
    exact h.one
theorem Sep.shutWd {F0 : List Nat} {w0 w : World} {L : List Asrt} {x : Wd} {v : Value} {F : List Nat} (S : Sep F0 w0 (aRow tCh 33 x.chains v F :: L) w) : Sep F0 w0 (aOwn tWd x [v] F :: L) w := by
  refine Sep.join [aRow tCh 33 x.chains v F] S (aOwn tWd x [v] F) (by simp [fps, aRow, aOwn]) fun h => ?_
  exact ⟨v, rfl, h (aRow tCh 33 x.chains v F) (by simp)⟩
def cntWd (x : Wd) : Nat := x.chains.length + cntChS x.chains
set_option maxHeartbeats 1600000 in
theorem eqWorld_c (w : World) (x : Wd) (c1 c2 : List Value) (h1 : tWd.rd w x c1) (h2 : tWd.rd w x c2) : Calls Try.prog 29 #[.agg c1.toArray, .agg c2.toArray] w (Ret (.bool true) w) := by
  obtain ⟨v1, rfl, h1⟩ := h1
  obtain ⟨v2, rfl, h2⟩ := h2
  have S := Sep.start w
  go_enter Try.func29, Try.ntmps29
  go_wp2_with (first
    | (go_at_call 81; (with_reducible refine (eqChainS_c _ _ _ x.chains (h1.fr S.frame) (h2.fr S.frame)).mono ?_); rintro e w9 ⟨rfl, f9⟩; replace S := S.fr f9; clear f9)
    | ((with_reducible refine gate_box rfl ?_); refine aBx S ?_; clear S; intro g9 w9 z9 S) | ((with_reducible refine gate_alloc rfl ?_); refine aAl S ?_; clear S; intro g9 w9 z9 S) | ((with_reducible refine gate_load rfl ?_); first | refine aLd S ?_ | refine aPt S ?_ | refine aL1 S ?_) | ((with_reducible refine gate_st rfl ?_); (first | refine aS1 S ?_ | refine aSt S ?_ | refine aSp S ?_); clear S; intro w9 S))
  go_ret
  exact ⟨rfl, S.frame⟩
set_option maxHeartbeats 1600000 in
theorem szWorld_c (w : World) (x : Wd) (c1 : List Value) (left : Int) (h1 : tWd.rd w x c1) (hl0 : 0 ≤ left) (hl1 : left ≤ 1048576) :
    Calls Try.prog 37 #[.agg c1.toArray, .int .i64 left] w (Ret (.int .i64 (szr left (cntWd x))) w) := by
  obtain ⟨v1, rfl, h1⟩ := h1
  have S := Sep.start w
  by_cases e1 : ((x.chains.length + cntChS x.chains : Nat) : Int) ≤ left
  · have s1 := Lib.hid (szr_yes e1)
    have E := Lib.hid (show szr left (cntWd x) = left - (x.chains.length + cntChS x.chains : Nat) from szr_yes e1)
    obtain ⟨n, hn⟩ : ∃ n : Nat, x.chains.length + cntChS x.chains = n := ⟨_, rfl⟩
    rw [hn] at s1 E e1
    have t1 : decide (left - (n : Int) < 0) = false := decide_eq_false (by omega)
    have HN := Lib.hid hn
    clear hn
    go_enter Try.func37, Try.ntmps37
    go_wp2_with (first
      | (go_at_call 92; (with_reducible refine (szChainS_c _ _ x.chains left (h1.fr S.frame) hl0 hl1).mono ?_); rintro e w9 ⟨rfl, f9⟩; rw [HN.out, s1.out]; replace S := S.fr f9; clear f9)
      | ((with_reducible refine gate_box rfl ?_); refine aBx S ?_; clear S; intro g9 w9 z9 S) | ((with_reducible refine gate_alloc rfl ?_); refine aAl S ?_; clear S; intro g9 w9 z9 S) | ((with_reducible refine gate_load rfl ?_); first | refine aLd S ?_ | refine aPt S ?_ | refine aL1 S ?_) | ((with_reducible refine gate_st rfl ?_); (first | refine aS1 S ?_ | refine aSt S ?_ | refine aSp S ?_); clear S; intro w9 S))
    go_ret
    exact ⟨ret_int E.out.symm, S.frame⟩
  · have s1 := Lib.hid (szr_no e1)
    have E := Lib.hid (show szr left (cntWd x) = -1 from szr_no e1)
    go_enter Try.func37, Try.ntmps37
    go_wp2_with (first
      | (go_at_call 92; (with_reducible refine (szChainS_c _ _ x.chains left (h1.fr S.frame) hl0 hl1).mono ?_); rintro e w9 ⟨rfl, f9⟩; rw [s1.out]; replace S := S.fr f9; clear f9)
      | ((with_reducible refine gate_box rfl ?_); refine aBx S ?_; clear S; intro g9 w9 z9 S) | ((with_reducible refine gate_alloc rfl ?_); refine aAl S ?_; clear S; intro g9 w9 z9 S) | ((with_reducible refine gate_load rfl ?_); first | refine aLd S ?_ | refine aPt S ?_ | refine aL1 S ?_) | ((with_reducible refine gate_st rfl ?_); (first | refine aS1 S ?_ | refine aSt S ?_ | refine aSp S ?_); clear S; intro w9 S))
    go_ret
    exact ⟨ret_int E.out.symm, S.frame⟩
set_option maxHeartbeats 1600000 in
theorem toWorld_c (w : World) (x : Wd) (c1 : List Value) (h1 : tWd.rd w x c1) (hb : cntWd x ≤ 1048576) : Calls Try.prog 39 #[.agg c1.toArray] w (RetOwn tWd x w) := by
  obtain ⟨v1, rfl, h1⟩ := h1
  have hc : x.chains.length ≤ 1048576 ∧ cntChS x.chains ≤ 1048576 := by unfold cntWd at hb; omega
  obtain ⟨b1, b2⟩ := hc
  have S := Sep.start w
  go_enter Try.func39, Try.ntmps39
  go_wp2_with (first
    | (go_at_call 93; (with_reducible refine (toChainS_c _ _ x.chains (h1.fr S.frame) b1 b2).mono ?_); rintro e w9 ⟨v9, F9, rfl, h9, n9, b9, f9⟩; obtain ⟨A9, c9, rfl⟩ := h9.row.val; replace S := S.new (aRow tCh 33 _ (.slice A9 _ c9) F9) h9 n9 b9 f9; clear h9 n9 b9 f9)
    | ((with_reducible refine gate_box rfl ?_); refine aBx S ?_; clear S; intro g9 w9 z9 S) | ((with_reducible refine gate_alloc rfl ?_); refine aAl S ?_; clear S; intro g9 w9 z9 S) | ((with_reducible refine gate_load rfl ?_); first | refine aLd S ?_ | refine aPt S ?_ | refine aL1 S ?_) | ((with_reducible refine gate_st rfl ?_); (first | refine aS1 S ?_ | refine aSt S ?_ | refine aSp S ?_); clear S; intro w9 S))
  have S2 := (Sep.only1 (a1 := aRow tCh _ x.chains _ _) S delA)
  (refine Sep.ret1 S rfl rfl memA Try.underlying47 rfl ts47 rfl ?_)
  exact (Sep.shutWd S2).retOwn List.mem_cons_self
end Go.Proofs.Ytapdcgjccckjeaa
namespace Go.Proofs.Ytapdcgjccckjeaa
set_option maxRecDepth 100000
set_option linter.unusedVariables false
set_option linter.unusedSimpArgs false
open Go.RowKit
theorem smallCh_past {c : Ch} (h : SmallCh c) : cntMStS c.past ≤ 1000000000 := h.2.2.2.1
theorem cntCh_past {c : Ch} (h : cntCh c ≤ 1048576) : cntMStS c.past ≤ 1000000000 := by
  have := cntMStS_bd c.past
  unfold cntCh at h
  omega
end Go.Proofs.Ytapdcgjccckjeaa
namespace Go.Proofs.Ytapdcgjccckjeaa
set_option maxRecDepth 100000
set_option linter.unusedVariables false
set_option linter.unusedSimpArgs false
open Go.RowKit
def cntMC1 (c : Ch) : Nat := 1 + (c.bank.own.length + (c.bank.notes.length + (1 + (3 + (7 * c.st.sent.length + (c.st.live.length + (c.st.back.length + (c.st.got.length + (cntMStS c.past + c.knows.length)))))))))
def markC1 (q : Int) (c : Ch) : Ch := ⟨q, ⟨marksI (q + 1) c.bank.own.length, marksI (q + 1 + c.bank.own.length) c.bank.notes.length, q + 1 + c.bank.own.length + c.bank.notes.length⟩, ⟨q + 1 + c.bank.own.length + c.bank.notes.length + 1, q + 1 + c.bank.own.length + c.bank.notes.length + 1 + 1, q + 1 + c.bank.own.length + c.bank.notes.length + 1 + 1 + 1, marksP (q + 1 + c.bank.own.length + c.bank.notes.length + 1 + 1 + 1 + 1) c.st.sent.length, marksB (q + 1 + c.bank.own.length + c.bank.notes.length + 1 + 1 + 1 + 1 + 7 * c.st.sent.length) c.st.live.length, marksB (q + 1 + c.bank.own.length + c.bank.notes.length + 1 + 1 + 1 + 1 + 7 * c.st.sent.length + c.st.live.length) c.st.back.length, marksI (q + 1 + c.bank.own.length + c.bank.notes.length + 1 + 1 + 1 + 1 + 7 * c.st.sent.length + c.st.live.length + c.st.back.length) c.st.got.length⟩, marksS (q + 1 + c.bank.own.length + c.bank.notes.length + 1 + 1 + 1 + 1 + 7 * c.st.sent.length + c.st.live.length + c.st.back.length + c.st.got.length) c.past, marksI (q + 1 + c.bank.own.length + c.bank.notes.length + 1 + 1 + 1 + 1 + 7 * c.st.sent.length + c.st.live.length + c.st.back.length + c.st.got.length + cntMStS c.past) c.knows.length⟩
def cntMChS : List Ch → Nat
  | [] => 0
  | s :: ss => cntMC1 s + cntMChS ss
theorem cntMChS_append : ∀ (a b : List Ch), cntMChS (a ++ b) = cntMChS a + cntMChS b
  | [], b => by simp [cntMChS]
  | s :: a, b => by simp [cntMChS, cntMChS_append a b]; omega
theorem cntMChS_take (xs : List Ch) (k : Nat) (h : k < xs.length) : cntMChS (xs.take (k + 1)) = cntMChS (xs.take k) + cntMC1 xs[k] := by
  rw [List.take_succ_eq_append_getElem h, cntMChS_append]
  simp [cntMChS]
theorem cntMChS_le (xs : List Ch) (k : Nat) : cntMChS (xs.take k) ≤ cntMChS xs := by
  conv => rhs; rw [← List.take_append_drop k xs, cntMChS_append]
  omega
theorem cntMChS_get (xs : List Ch) (k : Nat) (h : k < xs.length) : cntMC1 xs[k] ≤ cntMChS xs := by
  have h1 := cntMChS_take xs k h
  have h2 := cntMChS_le xs (k + 1)
  omega
def marksC : Int → List Ch → List Ch
  | _, [] => []
  | q, s :: ss => markC1 q s :: marksC (q + (cntMC1 s : Nat)) ss
theorem marksC_len : ∀ (q : Int) (xs : List Ch), (marksC q xs).length = xs.length
  | _, [] => rfl
  | q, s :: ss => by simp [marksC, marksC_len _ ss]
theorem marksC_append : ∀ (q : Int) (a b : List Ch), marksC q (a ++ b) = marksC q a ++ marksC (q + cntMChS a) b
  | q, [], b => by simp [marksC, cntMChS]
  | q, s :: a, b => by
    simp only [List.cons_append, marksC, marksC_append _ a b, cntMChS]
    congr 3
    omega
theorem marksC_take (q : Int) (xs : List Ch) (k : Nat) (h : k < xs.length) : marksC q (xs.take (k + 1)) = marksC q (xs.take k) ++ [markC1 (q + cntMChS (xs.take k)) xs[k]] := by
  rw [List.take_succ_eq_append_getElem h, marksC_append]
  simp [marksC]
theorem marksC_get (q : Int) (xs : List Ch) (k : Nat) (h : k < xs.length) : (marksC q xs)[k]'(by rw [marksC_len]; exact h) = markC1 (q + cntMChS (xs.take k)) xs[k] := by
  have e : marksC q xs = marksC q (xs.take k) ++ (markC1 (q + cntMChS (xs.take k)) xs[k] :: marksC (q + cntMChS (xs.take k) + (cntMC1 xs[k] : Nat)) (xs.drop (k + 1))) := by
    conv => lhs; rw [← List.take_append_drop k xs, marksC_append, List.drop_eq_getElem_cons h]
    rfl
  simp only [e]
  rw [List.getElem_append_right (by rw [marksC_len]; simp; omega)]
  have : k - (marksC q (List.take k xs)).length = 0 := by rw [marksC_len]; simp; omega
  simp [this]
theorem ch_set {x0 x1 : Ch} {j : Nat} {u : Value} (h : ∀ b1 b2 s1 s2 s3 s4 v1 v2 : Value, [Value.int .i64 x0.id, b1, b2, .int .i64 x0.bank.locked, .int .i64 x0.st.way, .int .i64 x0.st.vsn, .int .i64 x0.st.want, s1, s2, s3, s4, v1, v2].set j u = [Value.int .i64 x1.id, b1, b2, .int .i64 x1.bank.locked, .int .i64 x1.st.way, .int .i64 x1.st.vsn, .int .i64 x1.st.want, s1, s2, s3, s4, v1, v2])
    (e1 : x1.bank.own = x0.bank.own ∧ x1.bank.notes = x0.bank.notes) (e2 : x1.st.sent = x0.st.sent ∧ x1.st.live = x0.st.live ∧ x1.st.back = x0.st.back ∧ x1.st.got = x0.st.got) (e3 : x1.past = x0.past ∧ x1.knows = x0.knows)
    (ho : I64 x0.id ∧ I64 x0.bank.locked ∧ I64 x0.st.way ∧ I64 x0.st.vsn ∧ I64 x0.st.want → I64 x1.id ∧ I64 x1.bank.locked ∧ I64 x1.st.way ∧ I64 x1.st.vsn ∧ I64 x1.st.want) : ∀ (w : World) (cs : List Value) (G : List Nat), tCh.own w x0 cs G → tCh.own w x1 (cs.set j u) G := by
  rintro w cs G ⟨b1, b2, s1, s2, s3, s4, v1, v2, F1, F2, F3, F4, rfl, rfl, ⟨a1, a2, G1, G2, ea, rfl, g1, g2, g3⟩, ⟨c1, c2, c3, c4, H1, H2, H3, H4, ec, rfl, k1, k2, k3, k4, k5⟩, h3, h4, h5⟩
  simp only [List.cons.injEq, and_true, true_and] at ea ec
  obtain ⟨rfl, rfl⟩ := ea
  obtain ⟨rfl, rfl, rfl, rfl⟩ := ec
  obtain ⟨y1, y2, y3, y4, y5⟩ := ho ⟨h5, g3, k5.1, k5.2.1, k5.2.2⟩
  exact ⟨b1, b2, s1, s2, s3, s4, v1, v2, G1 ++ G2, _, F3, F4, h _ _ _ _ _ _ _ _, rfl, ⟨b1, b2, G1, G2, rfl, rfl, by rw [e1.1]; exact g1, by rw [e1.2]; exact g2, y2⟩, ⟨s1, s2, s3, s4, H1, H2, H3, H4, rfl, rfl, by rw [e2.1]; exact k1, by rw [e2.2.1]; exact k2, by rw [e2.2.2.1]; exact k3, by rw [e2.2.2.2]; exact k4, y3, y4, y5⟩, by rw [e3.1]; exact h3, by rw [e3.2]; exact h4, y1⟩
theorem Sep.shapeBk2 {F0 : List Nat} {w0 w : World} {L : List Asrt} {b : Bk} {cs : List Value} {F : List Nat} (S : Sep F0 w0 L w) (h : aOwn tBk b cs F ∈ L) : ∃ A1 c1 A2 c2, cs = [.slice A1 b.own.length c1, .slice A2 b.notes.length c2, .int .i64 b.locked] := by
  obtain ⟨v1, v2, F1, F2, e, _, h1, h2, _⟩ := S.own h
  obtain ⟨A1, c1, rfl⟩ := h1.row.val
  obtain ⟨A2, c2, rfl⟩ := h2.row.val
  exact ⟨_, _, _, _, e⟩
section
variable {F0 : List Nat} {w0 w : World} {L : List Asrt} {e : Nat} {A B : List Ch} {i lk a b c : Int} {ow nt gs kn : List Int} {ps : List Pk} {bs ds : List Bool} {pa : List St} {v : Value} {F : List Nat}
theorem Sep.lendCh (S : Sep F0 w0 (aRow tCh e (A ++ ⟨i, ⟨ow, nt, lk⟩, ⟨a, b, c, ps, bs, ds, gs⟩, pa, kn⟩ :: B) v F :: L) w) : ∃ A1 m1 A2 m2 B1 n1 B2 n2 B3 n3 B4 n4 P1 k1 K1 j1 Y1 Y2 Z1 Z2 Z3 Z4 M K F1 F3, F = v.ownBlock.toList ++ (F1 ++ (((Y1 ++ Y2) ++ ((Z1 ++ (Z2 ++ (Z3 ++ Z4))) ++ (M ++ K))) ++ F3)) ∧ I64 lk ∧ (I64 a ∧ I64 b ∧ I64 c) ∧ I64 i ∧
    Sep F0 w0 (aRow tInt 3 ow (.slice A1 ow.length m1) Y1 :: aRow tInt 3 nt (.slice A2 nt.length m2) Y2 :: aRow tPk 88 ps (.slice B1 ps.length n1) Z1 :: aRow tBool 4 bs (.slice B2 bs.length n2) Z2 :: aRow tBool 4 ds (.slice B3 ds.length n3) Z3 :: aRow tInt 3 gs (.slice B4 gs.length n4) Z4 :: aRow tSt 30 pa (.slice P1 pa.length k1) M :: aRow tInt 3 kn (.slice K1 kn.length j1) K :: aRest tCh e A B [.int .i64 i, .slice A1 ow.length m1, .slice A2 nt.length m2, .int .i64 lk, .int .i64 a, .int .i64 b, .int .i64 c, .slice B1 ps.length n1, .slice B2 bs.length n2, .slice B3 ds.length n3, .slice B4 gs.length n4, .slice P1 pa.length k1, .slice K1 kn.length j1] v F1 F3 :: L) w := by
  obtain ⟨cs, F1, Fx, F3, hF, S⟩ := S.lend
  obtain ⟨b1, b2, s1, s2, s3, s4, P1, k1, K1, j1, G1, G2, G3, G4, rfl, rfl, h15, S⟩ := S.openCh
  obtain ⟨A1, m1, A2, m2, e1⟩ := S.shapeBk2 List.mem_cons_self
  simp only [List.cons.injEq, and_true, true_and] at e1
  obtain ⟨rfl, rfl⟩ := e1
  obtain ⟨v1, v2, Y1, Y2, e1, rfl, I9, S⟩ := S.openBk
  simp only [List.cons.injEq, and_true, true_and] at e1
  obtain ⟨rfl, rfl⟩ := e1
  have S := S.pull (.tail _ (.tail _ (.head _ _)))
  obtain ⟨B1, n1, B2, n2, B3, n3, B4, n4, Z1, Z2, Z3, Z4, e1, rfl, J9, S⟩ := S.openSt
  simp only [List.cons.injEq, and_true, true_and] at e1
  obtain ⟨rfl, rfl, rfl, rfl⟩ := e1
  refine ⟨A1, m1, A2, m2, B1, n1, B2, n2, B3, n3, B4, n4, P1, k1, K1, j1, Y1, Y2, Z1, Z2, Z3, Z4, G3, G4, F1, F3, ?_, I9, J9, h15, ?_⟩
  · rw [hF]
  · exact (S.pull (a := aRow tInt 3 nt _ Y2) (.tail _ (.tail _ (.tail _ (.tail _ (.tail _ (.head _ _))))))).pull (.tail _ (.tail _ (.tail _ (.tail _ (.tail _ (.head _ _))))))
theorem Sep.backCh {x1 x2 v1 v2 v3 v4 u1 u2 : Value} {Y1 Y2 Z1 Z2 Z3 Z4 M K F1 F3 : List Nat} (S : Sep F0 w0 (aRow tInt 3 ow x1 Y1 :: aRow tInt 3 nt x2 Y2 :: aRow tPk 88 ps v1 Z1 :: aRow tBool 4 bs v2 Z2 :: aRow tBool 4 ds v3 Z3 :: aRow tInt 3 gs v4 Z4 :: aRow tSt 30 pa u1 M :: aRow tInt 3 kn u2 K :: aRest tCh e A B [.int .i64 i, x1, x2, .int .i64 lk, .int .i64 a, .int .i64 b, .int .i64 c, v1, v2, v3, v4, u1, u2] v F1 F3 :: L) w) (I9 : I64 lk) (J9 : I64 a ∧ I64 b ∧ I64 c) (h15 : I64 i) :
    Sep F0 w0 (aRow tCh e (A ++ ⟨i, ⟨ow, nt, lk⟩, ⟨a, b, c, ps, bs, ds, gs⟩, pa, kn⟩ :: B) v (v.ownBlock.toList ++ (F1 ++ (((Y1 ++ Y2) ++ ((Z1 ++ (Z2 ++ (Z3 ++ Z4))) ++ (M ++ K))) ++ F3))) :: L) w := by
  have S := S.allCh ⟨i, ⟨ow, nt, lk⟩, ⟨a, b, c, ps, bs, ds, gs⟩, pa, kn⟩ I9 J9 h15 delA delA delA delA delA delA delA delA
  exact S.back
end
end Go.Proofs.Ytapdcgjccckjeaa
namespace Go.Proofs.Ytapdcgjccckjeaa
set_option maxRecDepth 100000
set_option linter.unusedVariables false
set_option linter.unusedSimpArgs false
open Go.RowKit
set_option maxHeartbeats 3200000 in
theorem sPacketOk_c (w : World) (p : Pk) : Calls Try.prog 116 #[.agg p.cells.toArray] w (Ret (.bool (okPk p)) w) := by
  obtain ⟨s, k, a, b, m, u, v⟩ := p
  have f := Fr.refl w
  cases ds : decide (1 ≤ s ∧ s ≤ 8) with
  | false =>
    go_enter Try.func116, Try.ntmps116
    go_wp2_with (first
      | ((with_reducible refine gate_dst (N := 1) rfl ?_); refine wpList_box rfl _ _ rfl #[.int .i64 s, .int .i64 k, .int .i64 a, .int .i64 b, .int .i64 m, .int .i64 u, .int .i64 v] rfl ?_; intro g_k1 w9 hg_k1 k1 f9; have zf_k1 := f.size; have hl_k1 := k1.lt; have z9 := f9.size; replace f := f.trans f9; (try clear r_k1); have r_k1 := k1.cells)
      | (go_at_call 61; (with_reducible refine (l6In_c _ _ _ _).mono ?_); rintro e w9 ⟨rfl, rfl⟩; (try rw [ds]))
      | (go_at_call 140; (with_reducible refine (l1User_c _ _).mono ?_); rintro e w9 ⟨rfl, rfl⟩; (try rw [ds])))
    go_ret
    exact ⟨ret_bool (by simp only [okPk, ds]; first | rfl | simp), f⟩
  | true =>
    cases dk : decide (1 ≤ k ∧ k ≤ 2) with
    | false =>
      go_enter Try.func116, Try.ntmps116
      go_wp2_with (first
        | ((with_reducible refine gate_dst (N := 1) rfl ?_); refine wpList_box rfl _ _ rfl #[.int .i64 s, .int .i64 k, .int .i64 a, .int .i64 b, .int .i64 m, .int .i64 u, .int .i64 v] rfl ?_; intro g_k1 w9 hg_k1 k1 f9; have zf_k1 := f.size; have hl_k1 := k1.lt; have z9 := f9.size; replace f := f.trans f9; (try clear r_k1); have r_k1 := k1.cells)
        | (go_at_call 61; (with_reducible refine (l6In_c _ _ _ _).mono ?_); rintro e w9 ⟨rfl, rfl⟩; (try rw [ds]); (try rw [dk]))
        | (go_at_call 140; (with_reducible refine (l1User_c _ _).mono ?_); rintro e w9 ⟨rfl, rfl⟩; (try rw [ds]); (try rw [dk])))
      go_ret
      exact ⟨ret_bool (by simp only [okPk, ds, dk]; first | rfl | simp), f⟩
    | true =>
      cases da : decide (1 ≤ a ∧ a ≤ 3) with
      | false =>
        go_enter Try.func116, Try.ntmps116
        go_wp2_with (first
          | ((with_reducible refine gate_dst (N := 1) rfl ?_); refine wpList_box rfl _ _ rfl #[.int .i64 s, .int .i64 k, .int .i64 a, .int .i64 b, .int .i64 m, .int .i64 u, .int .i64 v] rfl ?_; intro g_k1 w9 hg_k1 k1 f9; have zf_k1 := f.size; have hl_k1 := k1.lt; have z9 := f9.size; replace f := f.trans f9; (try clear r_k1); have r_k1 := k1.cells)
          | (go_at_call 61; (with_reducible refine (l6In_c _ _ _ _).mono ?_); rintro e w9 ⟨rfl, rfl⟩; (try rw [ds]); (try rw [dk]); (try rw [da]))
          | (go_at_call 140; (with_reducible refine (l1User_c _ _).mono ?_); rintro e w9 ⟨rfl, rfl⟩; (try rw [ds]); (try rw [dk]); (try rw [da])))
        go_ret
        exact ⟨ret_bool (by simp only [okPk, ds, dk, da]; first | rfl | simp), f⟩
      | true =>
        cases db : decide (0 ≤ b ∧ b ≤ 3) with
        | false =>
          go_enter Try.func116, Try.ntmps116
          go_wp2_with (first
            | ((with_reducible refine gate_dst (N := 1) rfl ?_); refine wpList_box rfl _ _ rfl #[.int .i64 s, .int .i64 k, .int .i64 a, .int .i64 b, .int .i64 m, .int .i64 u, .int .i64 v] rfl ?_; intro g_k1 w9 hg_k1 k1 f9; have zf_k1 := f.size; have hl_k1 := k1.lt; have z9 := f9.size; replace f := f.trans f9; (try clear r_k1); have r_k1 := k1.cells)
            | (go_at_call 61; (with_reducible refine (l6In_c _ _ _ _).mono ?_); rintro e w9 ⟨rfl, rfl⟩; (try rw [ds]); (try rw [dk]); (try rw [da]); (try rw [db]))
            | (go_at_call 140; (with_reducible refine (l1User_c _ _).mono ?_); rintro e w9 ⟨rfl, rfl⟩; (try rw [ds]); (try rw [dk]); (try rw [da]); (try rw [db])))
          go_ret
          exact ⟨ret_bool (by simp only [okPk, ds, dk, da, db]; first | rfl | simp), f⟩
        | true =>
          cases dm : decide (1 ≤ m ∧ m ≤ 9) with
          | false =>
            go_enter Try.func116, Try.ntmps116
            go_wp2_with (first
              | ((with_reducible refine gate_dst (N := 1) rfl ?_); refine wpList_box rfl _ _ rfl #[.int .i64 s, .int .i64 k, .int .i64 a, .int .i64 b, .int .i64 m, .int .i64 u, .int .i64 v] rfl ?_; intro g_k1 w9 hg_k1 k1 f9; have zf_k1 := f.size; have hl_k1 := k1.lt; have z9 := f9.size; replace f := f.trans f9; (try clear r_k1); have r_k1 := k1.cells)
              | (go_at_call 61; (with_reducible refine (l6In_c _ _ _ _).mono ?_); rintro e w9 ⟨rfl, rfl⟩; (try rw [ds]); (try rw [dk]); (try rw [da]); (try rw [db]); (try rw [dm]))
              | (go_at_call 140; (with_reducible refine (l1User_c _ _).mono ?_); rintro e w9 ⟨rfl, rfl⟩; (try rw [ds]); (try rw [dk]); (try rw [da]); (try rw [db]); (try rw [dm])))
            go_ret
            exact ⟨ret_bool (by simp only [okPk, ds, dk, da, db, dm]; first | rfl | simp), f⟩
          | true =>
            cases du : decide (1 ≤ u ∧ u ≤ 90) with
            | false =>
              go_enter Try.func116, Try.ntmps116
              go_wp2_with (first
                | ((with_reducible refine gate_dst (N := 1) rfl ?_); refine wpList_box rfl _ _ rfl #[.int .i64 s, .int .i64 k, .int .i64 a, .int .i64 b, .int .i64 m, .int .i64 u, .int .i64 v] rfl ?_; intro g_k1 w9 hg_k1 k1 f9; have zf_k1 := f.size; have hl_k1 := k1.lt; have z9 := f9.size; replace f := f.trans f9; (try clear r_k1); have r_k1 := k1.cells)
                | (go_at_call 61; (with_reducible refine (l6In_c _ _ _ _).mono ?_); rintro e w9 ⟨rfl, rfl⟩; (try rw [ds]); (try rw [dk]); (try rw [da]); (try rw [db]); (try rw [dm]); (try rw [du]))
                | (go_at_call 140; (with_reducible refine (l1User_c _ _).mono ?_); rintro e w9 ⟨rfl, rfl⟩; (try rw [ds]); (try rw [dk]); (try rw [da]); (try rw [db]); (try rw [dm]); (try rw [du])))
              go_ret
              exact ⟨ret_bool (by simp only [okPk, ds, dk, da, db, dm, du]; first | rfl | simp), f⟩
            | true =>
              cases dv : decide (1 ≤ v ∧ v ≤ 9) with
              | false =>
                go_enter Try.func116, Try.ntmps116
                go_wp2_with (first
                  | ((with_reducible refine gate_dst (N := 1) rfl ?_); refine wpList_box rfl _ _ rfl #[.int .i64 s, .int .i64 k, .int .i64 a, .int .i64 b, .int .i64 m, .int .i64 u, .int .i64 v] rfl ?_; intro g_k1 w9 hg_k1 k1 f9; have zf_k1 := f.size; have hl_k1 := k1.lt; have z9 := f9.size; replace f := f.trans f9; (try clear r_k1); have r_k1 := k1.cells)
                  | (go_at_call 61; (with_reducible refine (l6In_c _ _ _ _).mono ?_); rintro e w9 ⟨rfl, rfl⟩; (try rw [ds]); (try rw [dk]); (try rw [da]); (try rw [db]); (try rw [dm]); (try rw [du]); (try rw [dv]))
                  | (go_at_call 140; (with_reducible refine (l1User_c _ _).mono ?_); rintro e w9 ⟨rfl, rfl⟩; (try rw [ds]); (try rw [dk]); (try rw [da]); (try rw [db]); (try rw [dm]); (try rw [du]); (try rw [dv])))
                go_ret
                exact ⟨ret_bool (by simp only [okPk, ds, dk, da, db, dm, du, dv]; first | rfl | simp), f⟩
              | true =>
                go_enter Try.func116, Try.ntmps116
                go_wp2_with (first
                  | ((with_reducible refine gate_dst (N := 1) rfl ?_); refine wpList_box rfl _ _ rfl #[.int .i64 s, .int .i64 k, .int .i64 a, .int .i64 b, .int .i64 m, .int .i64 u, .int .i64 v] rfl ?_; intro g_k1 w9 hg_k1 k1 f9; have zf_k1 := f.size; have hl_k1 := k1.lt; have z9 := f9.size; replace f := f.trans f9; (try clear r_k1); have r_k1 := k1.cells)
                  | (go_at_call 61; (with_reducible refine (l6In_c _ _ _ _).mono ?_); rintro e w9 ⟨rfl, rfl⟩; (try rw [ds]); (try rw [dk]); (try rw [da]); (try rw [db]); (try rw [dm]); (try rw [du]); (try rw [dv]))
                  | (go_at_call 140; (with_reducible refine (l1User_c _ _).mono ?_); rintro e w9 ⟨rfl, rfl⟩; (try rw [ds]); (try rw [dk]); (try rw [da]); (try rw [db]); (try rw [dm]); (try rw [du]); (try rw [dv])))
                go_ret
                exact ⟨ret_bool (by simp only [okPk, ds, dk, da, db, dm, du, dv]; first | rfl | simp), f⟩
theorem okPk_iff {p : Pk} : okPk p = true ↔ 1 ≤ p.seq ∧ p.seq ≤ 8 ∧ 1 ≤ p.kind ∧ p.kind ≤ 2 ∧ 1 ≤ p.frm ∧ p.frm ≤ 3 ∧ 0 ≤ p.dst ∧ p.dst ≤ 3 ∧ 1 ≤ p.sum ∧ p.sum ≤ 9 ∧ 1 ≤ p.til ∧ p.til ≤ 90 ∧ 1 ≤ p.ver ∧ p.ver ≤ 9 := by
  simp only [okPk, Bool.and_eq_true, decide_eq_true_eq, and_assoc]
theorem okPk_yes {p : Pk} (h : 1 ≤ p.seq ∧ p.seq ≤ 8 ∧ 1 ≤ p.kind ∧ p.kind ≤ 2 ∧ 1 ≤ p.frm ∧ p.frm ≤ 3 ∧ 0 ≤ p.dst ∧ p.dst ≤ 3 ∧ 1 ≤ p.sum ∧ p.sum ≤ 9 ∧ 1 ≤ p.til ∧ p.til ≤ 90 ∧ 1 ≤ p.ver ∧ p.ver ≤ 9) : okPk p = true := okPk_iff.2 h
theorem okPk_no {p : Pk} (h : ¬ (1 ≤ p.seq ∧ p.seq ≤ 8 ∧ 1 ≤ p.kind ∧ p.kind ≤ 2 ∧ 1 ≤ p.frm ∧ p.frm ≤ 3 ∧ 0 ≤ p.dst ∧ p.dst ≤ 3 ∧ 1 ≤ p.sum ∧ p.sum ≤ 9 ∧ 1 ≤ p.til ∧ p.til ≤ 90 ∧ 1 ≤ p.ver ∧ p.ver ≤ 9)) : okPk p = false := by
  cases e : okPk p
  · rfl
  · exact absurd (okPk_iff.1 e) h
set_option maxHeartbeats 3200000 in
theorem PacketOk_c (w : World) (p : Pk) : Calls Try.prog 118 #[.agg p.cells.toArray] w (Ret (.bool (okPk p)) w) := by
  obtain ⟨s, k, a, b, m, u, v⟩ := p
  have f := Fr.refl w
  go_enter Try.func118, Try.ntmps118
  go_wp2_with (first
    | ((with_reducible refine gate_dst (N := 1) rfl ?_); refine wpList_box rfl _ _ rfl #[.int .i64 s, .int .i64 k, .int .i64 a, .int .i64 b, .int .i64 m, .int .i64 u, .int .i64 v] rfl ?_; intro g_k1 w9 hg_k1 k1 f9; have zf_k1 := f.size; have hl_k1 := k1.lt; have z9 := f9.size; replace f := f.trans f9; (try clear r_k1); have r_k1 := k1.cells)
    | (go_at_call 143; (with_reducible refine (userOk_c _ _).mono ?_); rintro e w9 ⟨rfl, rfl⟩))
  all_goals
    go_ret
    refine ⟨ret_bool ?_, f⟩
    clear k1 f
    try simp only [bne_iff_ne, ne_eq, bne_eq_false_iff_eq, Bool.not_eq_true', Bool.not_eq_eq_eq_not, Bool.not_true, Bool.not_false, decide_eq_false_iff_not, Bool.not_eq_false', decide_eq_true_eq] at *
    first
      | exact (okPk_no (by simp only []; omega)).symm
      | exact (okPk_yes (by simp only []; omega)).symm
      | (by_cases hv : v ≤ 9; (rw [okPk_yes (by simp only []; omega)]; simp [hv]); (rw [okPk_no (by simp only []; omega)]; simp [hv]))
end Go.Proofs.Ytapdcgjccckjeaa
namespace Go.Proofs.Ytapdcgjccckjeaa
set_option maxRecDepth 100000
set_option linter.unusedVariables false
set_option linter.unusedSimpArgs false
open Go.RowKit
def Pk.lst (x : Pk) : List Value := [.int .i64 x.seq, .int .i64 x.kind, .int .i64 x.frm, .int .i64 x.dst, .int .i64 x.sum, .int .i64 x.til, .int .i64 x.ver]
theorem PacketOk_l (w : World) (x : Pk) : Calls Try.prog 118 #[.agg #[.int .i64 x.seq, .int .i64 x.kind, .int .i64 x.frm, .int .i64 x.dst, .int .i64 x.sum, .int .i64 x.til, .int .i64 x.ver]] w (Ret (.bool (okPk x)) w) := PacketOk_c w x
theorem sPacketOk_l (w : World) (x : Pk) : Calls Try.prog 116 #[.agg #[.int .i64 x.seq, .int .i64 x.kind, .int .i64 x.frm, .int .i64 x.dst, .int .i64 x.sum, .int .i64 x.til, .int .i64 x.ver]] w (Ret (.bool (okPk x)) w) := sPacketOk_c w x
/-- Element k, as the walks read it: whole, and by its fields. -/
structure PkAt (w : World) (ad : Addr) (x : Pk) : Prop where
  cells : ∀ j, j < 7 → w.cell? (ad.add j) = x.lst[j]?
theorem PkAt.fr {w w' : World} {ad : Addr} {x : Pk} (h : PkAt w ad x) (f : Fr w w') : PkAt w' ad x := ⟨fun j hj => by
  have h1 := h.cells j hj
  have h2 : ∃ v, x.lst[j]? = some v := ⟨x.lst[j]'(by simpa [Pk.lst] using hj), List.getElem?_eq_getElem _⟩
  obtain ⟨v, hv⟩ := h2
  rw [hv] at h1 ⊢
  exact f.cell h1⟩
theorem pkAt_of_row {w : World} {A : Option Addr} {n c : Nat} {xs : List Pk} (h : tPk.row w (.slice A n c) xs) (k : Nat) (hk : k < xs.length) : ∃ ad, A = some ad ∧ PkAt w (ad.add (k * 7)) xs[k] := by
  obtain ⟨ad, e, _, hc⟩ := row_pk_at h k hk
  exact ⟨ad, e, ⟨fun j hj => hc j hj⟩⟩
theorem PkAt.at_ {w : World} {ad : Addr} {x : Pk} (h : PkAt w ad x) (j : Nat) (v : Value) (hv : x.lst[j]? = some v) : w.cell? (ad.add j) = some v := by
  have hj : j < 7 := by
    have := (List.getElem?_eq_some_iff.1 hv).1
    simpa [Pk.lst] using this
  rw [h.cells j hj, hv]
section
variable {P : Program} {ops : Array Oper} {rest : List Oper} {o : Oper} {a : Act} {Q : Exit → Act → World → Prop} {W : World}
theorem wpList_pkld (hw : Region.wanted o (yielded ops a.tmps) = true) (ty : TypeId) (x : Operand) (ho : o.op = .load ty x) {ad : Addr} (hx : a.eval x = .pointer (some ad)) {p : Pk} (hc : PkAt W ad p) (d : TypeDesc)
    (hu : P.underlying ty = some d) (hd : (match d with | .struct _ | .array _ _ => true | _ => false) = true) (hi : (P.info? ty).map (·.size) = some 7) (h : wpList P ops Q rest (a.put o.dst (.agg #[.int .i64 p.seq, .int .i64 p.kind, .int .i64 p.frm, .int .i64 p.dst, .int .i64 p.sum, .int .i64 p.til, .int .i64 p.ver])) W) : wpList P ops Q (o :: rest) a W := by
  refine wpList_of_run hw (v := .agg p.lst.toArray) ?_ h
  unfold execOp
  simp only [ho, hx, Instr.loadAt, Instr.sureAddr, Sem.run_bind, Sem.run_pure, Result.andThen_ok, run_loadVar_cells W ad 7 ty p.lst d rfl hc.cells hu hd hi]
theorem yields_pkld {T : World → Prop} (hw : Region.wanted o (yielded ops a.tmps) = true) (ty : TypeId) (x : Operand) (ho : o.op = .load ty x) {ad : Addr} (hx : a.eval x = .pointer (some ad)) {p : Pk} (hc : ∀ w, T w → PkAt w ad p) (d : TypeDesc)
    (hu : P.underlying ty = some d) (hd : (match d with | .struct _ | .array _ _ => true | _ => false) = true) (hi : (P.info? ty).map (·.size) = some 7) : YieldsIf P ops T o (.agg #[.int .i64 p.seq, .int .i64 p.kind, .int .i64 p.frm, .int .i64 p.dst, .int .i64 p.sum, .int .i64 p.til, .int .i64 p.ver]) a := yields_of_run hw fun W hT => by
  unfold execOp
  have := run_loadVar_cells (P := P) W ad 7 ty p.lst d rfl (hc W hT).cells hu hd hi
  simp only [ho, hx, Instr.loadAt, Instr.sureAddr, Sem.run_bind, Sem.run_pure, Result.andThen_ok, this]
  rfl
end
end Go.Proofs.Ytapdcgjccckjeaa
namespace Go.Proofs.Ytapdcgjccckjeaa
set_option maxRecDepth 100000
set_option linter.unusedVariables false
set_option linter.unusedSimpArgs false
open Go.RowKit
def rng2 (x : Int) : Bool := decide (0 ≤ x ∧ x ≤ 2)
def gotOk (gs : List Int) : Bool := gs.length == 8 && gs.all rng2
def pkAtOk (v : Int) (k : Nat) (x : Pk) (l b : Bool) : Bool := okPk x && decide (x.seq = (k : Int) + 1) && !(l && b) && decide (x.ver ≤ v)
def pksOk (s : St) (k : Nat) : Bool := pkAtOk s.vsn k (s.sent.getD k zPk) (s.live.getD k false) (s.back.getD k false)
def sentOk (s : St) : Bool := decide (s.sent.length ≤ 8) && s.live.length == s.sent.length && s.back.length == s.sent.length && (List.range s.sent.length).all (pksOk s)
def wantOk (s : St) : Bool := if s.way = 4 then decide (s.want = s.vsn + 1) && decide (s.want ≤ 9) else s.want == 0
def okSt (s : St) : Bool := decide (0 ≤ s.way ∧ s.way ≤ 4) && decide (1 ≤ s.vsn ∧ s.vsn ≤ 9) && wantOk s && sentOk s && gotOk s.got
theorem sentOk_bad {s : St} {k : Nat} (hk : k < s.sent.length) (h : pksOk s k = false) : sentOk s = false := by
  cases e : sentOk s with
  | false => rfl
  | true =>
    simp only [sentOk, Bool.and_eq_true, List.all_eq_true] at e
    have := e.2 k (List.mem_range.2 hk)
    rw [h] at this
    cases this
theorem range_all_succ {p : Nat → Bool} {k : Nat} (h : (List.range k).all p = true) (hk : p k = true) : (List.range (k + 1)).all p = true := by
  rw [List.range_succ, List.all_append, h]
  simp [hk]
theorem pksOk_at {s : St} {k : Nat} (h1 : k < s.sent.length) (h2 : k < s.live.length) (h3 : k < s.back.length) : pksOk s k = pkAtOk s.vsn k s.sent[k] s.live[k] s.back[k] := by
  simp [pksOk, h1, h2, h3]
theorem gotOk_bad {gs : List Int} {k : Nat} (hk : k < gs.length) (h : rng2 gs[k] = false) : gotOk gs = false := by
  cases e : gotOk gs with
  | false => rfl
  | true =>
    simp only [gotOk, Bool.and_eq_true, List.all_eq_true] at e
    have := e.2 _ (List.getElem_mem hk)
    rw [h] at this
    cases this
theorem allr_succ {gs : List Int} {k : Nat} (hk : k < gs.length) (h : (gs.take k).all rng2 = true) (hr : rng2 gs[k] = true) : (gs.take (k + 1)).all rng2 = true := by
  rw [List.take_succ_eq_append_getElem hk, List.all_append, h]
  simp [hr]
/-- The cells of a state's own struct. -/
def stCells (s : St) (A1 A2 A3 A4 : Option Addr) (c1 c2 c3 c4 : Nat) : List Value := [.int .i64 s.way, .int .i64 s.vsn, .int .i64 s.want, .slice A1 s.sent.length c1, .slice A2 s.live.length c2, .slice A3 s.back.length c3, .slice A4 s.got.length c4]
set_option maxRecDepth 100000 in
set_option maxHeartbeats 3200000 in
theorem stateSentOk_c (w : World) (s : St) (c0 : List Value) (h1 : tSt.rd w s c0) : Calls Try.prog 121 #[.agg c0.toArray] w (Ret (.bool (sentOk s)) w) := by
  obtain ⟨v1, v2, v3, v4, rfl, h11, h12, h13, h14, h15⟩ := h1
  obtain ⟨A1, c1, rfl⟩ := h11.val
  obtain ⟨A2, c2, rfl⟩ := h12.val
  obtain ⟨A3, c3, rfl⟩ := h13.val
  obtain ⟨A4, c4, rfl⟩ := h14.val
  have m1 := h11.le
  have m2 := h12.le
  have m3 := h13.le
  have S := Sep.start w
  clear h15
  by_cases e1 : s.sent.length ≤ 8
  case neg =>
    have r := Lib.hid (show sentOk s = false by simp [sentOk, e1])
    have t1 : decide (8 < s.sent.length) = true := decide_eq_true (by omega)
    have t1' : decide ((8 : Int) < (s.sent.length : Int)) = true := decide_eq_true (by omega)
    clear e1
    go_enter Try.func121, Try.ntmps121
    go_wp2_with (first | ((with_reducible refine gate_box rfl ?_); refine aBx S ?_; clear S; intro g9 w9 z9 S) | ((with_reducible refine gate_load rfl ?_); first | refine aLd S ?_ | refine aPt S ?_ | refine aL1 S ?_))
    go_ret
    exact ⟨by rw [r.out]; rfl, S.frame⟩
  have t1' : decide ((8 : Int) < (s.sent.length : Int)) = false := decide_eq_false (by omega)
  by_cases e2 : s.live.length = s.sent.length
  case neg =>
    have r := Lib.hid (show sentOk s = false by simp [sentOk, e2])
    have t2 : ((s.live.length : Int) != (s.sent.length : Int)) = true := by simp; omega
    have t2' : ((s.live.length : Int) == (s.sent.length : Int)) = false := by simp; omega
    clear e2
    go_enter Try.func121, Try.ntmps121
    go_wp2_with (first | ((with_reducible refine gate_box rfl ?_); refine aBx S ?_; clear S; intro g9 w9 z9 S) | ((with_reducible refine gate_load rfl ?_); first | refine aLd S ?_ | refine aPt S ?_ | refine aL1 S ?_))
    go_ret
    exact ⟨by rw [r.out]; rfl, S.frame⟩
  by_cases e3 : s.back.length = s.sent.length
  case neg =>
    have r := Lib.hid (show sentOk s = false by simp [sentOk, e3])
    have t3 : ((s.back.length : Int) != (s.sent.length : Int)) = true := by simp; omega
    have t3' : ((s.back.length : Int) == (s.sent.length : Int)) = false := by simp; omega
    rw [e2]
    have E2 := Lib.hid e2
    clear e3 e2
    go_enter Try.func121, Try.ntmps121
    go_wp2_with (first | ((with_reducible refine gate_box rfl ?_); refine aBx S ?_; clear S; intro g9 w9 z9 S) | ((with_reducible refine gate_load rfl ?_); first | refine aLd S ?_ | refine aPt S ?_ | refine aL1 S ?_))
    go_ret
    exact ⟨by rw [r.out]; rfl, S.frame⟩
  obtain ⟨n, hn⟩ : ∃ n, s.sent.length = n := ⟨_, rfl⟩
  rw [hn] at e1 e2 e3 t1' m1 ⊢
  rw [e2, e3]
  have E1 := Lib.hid hn
  have E2 := Lib.hid e2
  have E3 := Lib.hid e3
  clear hn e2 e3 m1 m2 m3
  go_enter Try.func121, Try.ntmps121
  go_wp2_with (first
    | ((with_reducible refine gate_dst (N := 1) rfl ?_); refine aBx S ?_; clear S; intro gS w9 z9 S)
    | ((with_reducible refine gate_box rfl ?_); refine aBx S ?_; clear S; intro g9 w9 z9 S) | ((with_reducible refine gate_load rfl ?_); first | refine aLd S ?_ | refine aPt S ?_ | refine aL1 S ?_))
  go_loopw [30] (fun i wr => ∃ k : Nat, k ≤ n ∧ i = .int .i64 k ∧ (List.range k).all (pksOk s) = true ∧ Sep [] w [aBox gS 30 7 [.int .i64 s.way, .int .i64 s.vsn, .int .i64 s.want, .slice A1 n c1, .slice A2 n c2, .slice A3 n c3, .slice A4 s.got.length c4]] wr) (fun i _ => n - (intOf i).toNat)
  case atStart => exact ⟨0, Nat.zero_le _, rfl, rfl, S⟩
  case round =>
    clear S
    obtain ⟨k, hk, rfl, hall, S⟩ := hrel
    have HA := Lib.hid hall
    clear hall
    by_cases hlt : k < n
    · obtain ⟨ad1, rfl, g1⟩ := pkAt_of_row h11 k (by rw [E1.out]; exact hlt)
      obtain ⟨ad2, rfl, g2⟩ := row_bool_at h12 k (by rw [E2.out]; exact hlt)
      obtain ⟨ad3, rfl, g3⟩ := row_bool_at h13 k (by rw [E3.out]; exact hlt)
      have hat := pksOk_at (s := s) (k := k) (by rw [E1.out]; exact hlt) (by rw [E2.out]; exact hlt) (by rw [E3.out]; exact hlt)
      have hin : k < s.sent.length := by rw [E1.out]; exact hlt
      generalize s.sent[k]'(by rw [E1.out]; exact hlt) = x at *
      generalize s.live[k]'(by rw [E2.out]; exact hlt) = l at *
      generalize s.back[k]'(by rw [E3.out]; exact hlt) = b at *
      have HAT := Lib.hid hat
      have HIN := Lib.hid hin
      have G2 := Lib.hid g2
      have G3 := Lib.hid g3
      have p1 : (k : Int) < (n : Int) := by omega
      clear hat hin g2 g3
      cases o1 : okPk x with
      | false =>
        have O1 := Lib.hid o1
        have R := Lib.hid (sentOk_bad (s := s) (k := k) HIN.out (by rw [HAT.out]; simp [pkAtOk, o1]))
        clear o1
        go_wp2_with (first
          | ((with_reducible refine gate_dst (N := 34) rfl ?_); refine wpList_pkld (by rfl) 88 _ rfl rfl (g1.fr S.frame) _ Try.underlying88 rfl ts88 ?_)
          | (go_at_call 118; (with_reducible refine (PacketOk_l _ x).mono ?_); rintro e w9 ⟨rfl, f9⟩; rw [O1.out]; replace S := S.fr f9; clear f9)
          | ((with_reducible refine gate_dst (N := 4) rfl ?_); refine aAl S ?_; clear S; intro g9 w9 z9 S) | ((with_reducible refine gate_st rfl ?_); (first | refine aS1 S ?_ | refine aSt S ?_ | refine aSp S ?_); clear S; intro w9 S) | ((with_reducible refine gate_box rfl ?_); refine aBx S ?_; clear S; intro g9 w9 z9 S) | ((with_reducible refine gate_load rfl ?_); first | refine aLd S ?_ | refine aPt S ?_ | refine aL1 S ?_))
        go_ret
        exact ⟨by rw [R.out]; rfl, S.frame⟩
      | true =>
        have O1 := Lib.hid o1
        clear o1
        by_cases hq : x.seq = (k : Int) + 1
        case neg =>
          have tq : (x.seq != (k : Int) + 1) = true := by simpa using hq
          have tq' : (x.seq == (k : Int) + 1) = false := by simpa using hq
          have R := Lib.hid (sentOk_bad (s := s) (k := k) HIN.out (by rw [HAT.out]; simp [pkAtOk, O1.out, hq]))
          go_wp2_with (first
            | ((with_reducible refine gate_dst (N := 34) rfl ?_); refine wpList_pkld (by rfl) 88 _ rfl rfl (g1.fr S.frame) _ Try.underlying88 rfl ts88 ?_)
            | ((with_reducible refine gate_dst (N := 57) rfl ?_); refine wpList_rowint (by rfl) 4 _ rfl rfl (S.frame.cell G2.out) _ Try.underlying4 rfl ?_)
            | ((with_reducible refine gate_dst (N := 63) rfl ?_); refine wpList_rowint (by rfl) 4 _ rfl rfl (S.frame.cell G3.out) _ Try.underlying4 rfl ?_)
            | (go_at_call 118; (with_reducible refine (PacketOk_l _ x).mono ?_); rintro e w9 ⟨rfl, f9⟩; rw [O1.out]; replace S := S.fr f9; clear f9)
            | ((with_reducible refine gate_dst (N := 4) rfl ?_); refine aAl S ?_; clear S; intro g9 w9 z9 S) | ((with_reducible refine gate_st rfl ?_); (first | refine aS1 S ?_ | refine aSt S ?_ | refine aSp S ?_); clear S; intro w9 S) | ((with_reducible refine gate_box rfl ?_); refine aBx S ?_; clear S; intro g9 w9 z9 S) | ((with_reducible refine gate_load rfl ?_); first | refine aLd S ?_ | refine aPt S ?_ | refine aL1 S ?_))
          go_ret
          exact ⟨by rw [R.out]; rfl, S.frame⟩
        have tq : (x.seq != (k : Int) + 1) = false := by simpa using hq
        by_cases hv : x.ver ≤ s.vsn
        case neg =>
          have tv : decide (s.vsn < x.ver) = true := decide_eq_true (by omega)
          have Q := Lib.hid hq
          clear hq
          have R := Lib.hid (sentOk_bad (s := s) (k := k) HIN.out (by rw [HAT.out]; simp [pkAtOk, O1.out, hv]))
          go_wp2_with (first
            | ((with_reducible refine gate_dst (N := 34) rfl ?_); refine wpList_pkld (by rfl) 88 _ rfl rfl (g1.fr S.frame) _ Try.underlying88 rfl ts88 ?_)
            | ((with_reducible refine gate_dst (N := 57) rfl ?_); refine wpList_rowint (by rfl) 4 _ rfl rfl (S.frame.cell G2.out) _ Try.underlying4 rfl ?_)
            | ((with_reducible refine gate_dst (N := 63) rfl ?_); refine wpList_rowint (by rfl) 4 _ rfl rfl (S.frame.cell G3.out) _ Try.underlying4 rfl ?_)
            | (go_at_call 118; (with_reducible refine (PacketOk_l _ x).mono ?_); rintro e w9 ⟨rfl, f9⟩; rw [O1.out]; replace S := S.fr f9; clear f9)
            | ((with_reducible refine gate_dst (N := 4) rfl ?_); refine aAl S ?_; clear S; intro g9 w9 z9 S) | ((with_reducible refine gate_st rfl ?_); (first | refine aS1 S ?_ | refine aSt S ?_ | refine aSp S ?_); clear S; intro w9 S) | ((with_reducible refine gate_box rfl ?_); refine aBx S ?_; clear S; intro g9 w9 z9 S) | ((with_reducible refine gate_load rfl ?_); first | refine aLd S ?_ | refine aPt S ?_ | refine aL1 S ?_))
          go_ret
          exact ⟨by rw [R.out]; rfl, S.frame⟩
        have tv : decide (s.vsn < x.ver) = false := decide_eq_false (by omega)
        cases l with
        | false =>
          have R := Lib.hid (range_all_succ HA.out (by rw [HAT.out]; simp [pkAtOk, O1.out, hq, hv]))
          clear hq hv
          go_wp2_with (first
            | ((with_reducible refine gate_dst (N := 34) rfl ?_); refine wpList_pkld (by rfl) 88 _ rfl rfl (g1.fr S.frame) _ Try.underlying88 rfl ts88 ?_)
            | ((with_reducible refine gate_dst (N := 57) rfl ?_); refine wpList_rowint (by rfl) 4 _ rfl rfl (S.frame.cell G2.out) _ Try.underlying4 rfl ?_)
            | ((with_reducible refine gate_dst (N := 63) rfl ?_); refine wpList_rowint (by rfl) 4 _ rfl rfl (S.frame.cell G3.out) _ Try.underlying4 rfl ?_)
            | (go_at_call 118; (with_reducible refine (PacketOk_l _ x).mono ?_); rintro e w9 ⟨rfl, f9⟩; rw [O1.out]; replace S := S.fr f9; clear f9)
            | ((with_reducible refine gate_dst (N := 4) rfl ?_); refine aAl S ?_; clear S; intro g9 w9 z9 S) | ((with_reducible refine gate_st rfl ?_); (first | refine aS1 S ?_ | refine aSt S ?_ | refine aSp S ?_); clear S; intro w9 S) | ((with_reducible refine gate_box rfl ?_); refine aBx S ?_; clear S; intro g9 w9 z9 S) | ((with_reducible refine gate_load rfl ?_); first | refine aLd S ?_ | refine aPt S ?_ | refine aL1 S ?_))
          go_roundw
          case rel => exact ⟨k + 1, by omega, by go_num, R.out, (Sep.only1 (a1 := aBox gS _ _ _) S delA)⟩
          case measure => simp [intOf]; omega
        | true =>
          cases b with
          | false =>
            have R := Lib.hid (range_all_succ HA.out (by rw [HAT.out]; simp [pkAtOk, O1.out, hq, hv]))
            clear hq hv
            go_wp2_with (first
              | ((with_reducible refine gate_dst (N := 34) rfl ?_); refine wpList_pkld (by rfl) 88 _ rfl rfl (g1.fr S.frame) _ Try.underlying88 rfl ts88 ?_)
              | ((with_reducible refine gate_dst (N := 57) rfl ?_); refine wpList_rowint (by rfl) 4 _ rfl rfl (S.frame.cell G2.out) _ Try.underlying4 rfl ?_)
              | ((with_reducible refine gate_dst (N := 63) rfl ?_); refine wpList_rowint (by rfl) 4 _ rfl rfl (S.frame.cell G3.out) _ Try.underlying4 rfl ?_)
              | (go_at_call 118; (with_reducible refine (PacketOk_l _ x).mono ?_); rintro e w9 ⟨rfl, f9⟩; rw [O1.out]; replace S := S.fr f9; clear f9)
              | ((with_reducible refine gate_dst (N := 4) rfl ?_); refine aAl S ?_; clear S; intro g9 w9 z9 S) | ((with_reducible refine gate_st rfl ?_); (first | refine aS1 S ?_ | refine aSt S ?_ | refine aSp S ?_); clear S; intro w9 S) | ((with_reducible refine gate_box rfl ?_); refine aBx S ?_; clear S; intro g9 w9 z9 S) | ((with_reducible refine gate_load rfl ?_); first | refine aLd S ?_ | refine aPt S ?_ | refine aL1 S ?_))
            go_roundw
            case rel => exact ⟨k + 1, by omega, by go_num, R.out, (Sep.only1 (a1 := aBox gS _ _ _) S delA)⟩
            case measure => simp [intOf]; omega
          | true =>
            have R := Lib.hid (sentOk_bad (s := s) (k := k) HIN.out (by rw [HAT.out]; simp [pkAtOk, O1.out, hq, hv]))
            clear hq hv
            go_wp2_with (first
              | ((with_reducible refine gate_dst (N := 34) rfl ?_); refine wpList_pkld (by rfl) 88 _ rfl rfl (g1.fr S.frame) _ Try.underlying88 rfl ts88 ?_)
              | ((with_reducible refine gate_dst (N := 57) rfl ?_); refine wpList_rowint (by rfl) 4 _ rfl rfl (S.frame.cell G2.out) _ Try.underlying4 rfl ?_)
              | ((with_reducible refine gate_dst (N := 63) rfl ?_); refine wpList_rowint (by rfl) 4 _ rfl rfl (S.frame.cell G3.out) _ Try.underlying4 rfl ?_)
              | (go_at_call 118; (with_reducible refine (PacketOk_l _ x).mono ?_); rintro e w9 ⟨rfl, f9⟩; rw [O1.out]; replace S := S.fr f9; clear f9)
              | ((with_reducible refine gate_dst (N := 4) rfl ?_); refine aAl S ?_; clear S; intro g9 w9 z9 S) | ((with_reducible refine gate_st rfl ?_); (first | refine aS1 S ?_ | refine aSt S ?_ | refine aSp S ?_); clear S; intro w9 S) | ((with_reducible refine gate_box rfl ?_); refine aBx S ?_; clear S; intro g9 w9 z9 S) | ((with_reducible refine gate_load rfl ?_); first | refine aLd S ?_ | refine aPt S ?_ | refine aL1 S ?_))
            go_ret
            exact ⟨by rw [R.out]; rfl, S.frame⟩
    · obtain rfl : k = n := by omega
      have R := Lib.hid (show sentOk s = true by simp [sentOk, E1.out, E2.out, E3.out, e1]; simpa using HA.out)
      go_wp2
      go_ret
      exact ⟨by rw [R.out]; rfl, S.frame⟩
end Go.Proofs.Ytapdcgjccckjeaa
namespace Go.Proofs.Ytapdcgjccckjeaa
set_option maxRecDepth 100000
set_option linter.unusedVariables false
set_option linter.unusedSimpArgs false
open Go.RowKit
def fateV (n : Int) : Value := if n = 0 then .iface 173 (.agg #[]) else if n = 1 then .iface 174 (.agg #[]) else if n = 2 then .iface 175 (.agg #[]) else .nilIface
theorem fateOf_c (w : World) (n : Int) : Calls Try.prog 146 #[.int .i64 n] w fun e w' => e = .returned (.tuple #[fateV n, .bool (rng2 n)]) ∧ w = w' := by
  by_cases h0 : n = 0
  · subst h0
    go_enter Try.func146, Try.ntmps146
    go_wp2
    go_ret2
    exact ⟨by simp [fateV, rng2], rfl⟩
  by_cases h1 : n = 1
  · subst h1
    go_enter Try.func146, Try.ntmps146
    go_wp2
    go_ret2
    exact ⟨by simp [fateV, rng2], rfl⟩
  by_cases h2 : n = 2
  · subst h2
    go_enter Try.func146, Try.ntmps146
    go_wp2
    go_ret2
    exact ⟨by simp [fateV, rng2], rfl⟩
  have b0 : (n == 0) = false := by simpa using h0
  have b1 : (n == 1) = false := by simpa using h1
  have b2 : (n == 2) = false := by simpa using h2
  have r := Lib.hid (show fateV n = .nilIface ∧ rng2 n = false by simp [fateV, rng2, h0, h1, h2]; omega)
  clear h0 h1 h2
  go_enter Try.func146, Try.ntmps146
  go_wp2
  go_ret2
  exact ⟨by rw [r.out.1, r.out.2]; rfl, rfl⟩
theorem fateEntry_c (w : World) (n : Int) (hn : n = 0 ∨ n = 1 ∨ n = 2) : Calls Try.prog 154 #[fateV n] w fun e w' => e = .returned (.int .i64 n) ∧ w = w' := by
  have t11 : ∀ w, (Instr.typeAssert (.iface 174 (.agg #[])) 159 174 true).run Try.prog w = .ok (.tuple #[.agg #[], .bool true]) w := fun w => by kernel_rfl
  have t01 : ∀ w, (Instr.typeAssert (.iface 173 (.agg #[])) 159 174 true).run Try.prog w = .ok (.tuple #[.agg #[], .bool false]) w := fun w => by kernel_rfl
  have t21 : ∀ w, (Instr.typeAssert (.iface 175 (.agg #[])) 159 174 true).run Try.prog w = .ok (.tuple #[.agg #[], .bool false]) w := fun w => by kernel_rfl
  have t02 : ∀ w, (Instr.typeAssert (.iface 173 (.agg #[])) 159 175 true).run Try.prog w = .ok (.tuple #[.agg #[], .bool false]) w := fun w => by kernel_rfl
  have t22 : ∀ w, (Instr.typeAssert (.iface 175 (.agg #[])) 159 175 true).run Try.prog w = .ok (.tuple #[.agg #[], .bool true]) w := fun w => by kernel_rfl
  rcases hn with rfl | rfl | rfl
  · rw [show fateV 0 = .iface 173 (.agg #[]) from rfl]
    go_enter Try.func154, Try.ntmps154
    go_wp2
    go_ret
    exact ⟨rfl, rfl⟩
  · rw [show fateV 1 = .iface 174 (.agg #[]) from rfl]
    go_enter Try.func154, Try.ntmps154
    go_wp2
    go_ret
    exact ⟨rfl, rfl⟩
  · rw [show fateV 2 = .iface 175 (.agg #[]) from rfl]
    go_enter Try.func154, Try.ntmps154
    go_wp2
    go_ret
    exact ⟨rfl, rfl⟩
theorem fateOf_n (w : World) (n : Int) {r : Bool} (h : rng2 n = r) : Calls Try.prog 146 #[.int .i64 n] w fun e w' => e = .returned (.tuple #[fateV n, .bool r]) ∧ w = w' := h ▸ fateOf_c w n
set_option maxHeartbeats 1600000 in
theorem stateGotOk_c (w : World) (s : St) (c0 : List Value) (h1 : tSt.rd w s c0) : Calls Try.prog 122 #[.agg c0.toArray] w (Ret (.bool (gotOk s.got)) w) := by
  obtain ⟨v1, v2, v3, v4, rfl, h11, h12, h13, h14, h15⟩ := h1
  obtain ⟨A4, c4, rfl⟩ := h14.val
  have S := Sep.start w
  have m4 := h14.le
  clear h15
  by_cases e1 : s.got.length = 8
  case neg =>
    have r := Lib.hid (show gotOk s.got = false by simp [gotOk, e1])
    have t2 : ((s.got.length : Int) != 8) = true := by simp; omega
    have t2' : ((s.got.length : Int) == 8) = false := by simp; omega
    clear e1
    go_enter Try.func122, Try.ntmps122
    go_wp2_with (first | ((with_reducible refine gate_box rfl ?_); refine aBx S ?_; clear S; intro g9 w9 z9 S) | ((with_reducible refine gate_load rfl ?_); first | refine aLd S ?_ | refine aPt S ?_ | refine aL1 S ?_))
    go_ret
    exact ⟨by rw [r.out]; rfl, S.frame⟩
  have E1 := Lib.hid e1
  rw [e1]
  clear e1 m4
  go_enter Try.func122, Try.ntmps122
  go_wp2_with (first
    | ((with_reducible refine gate_dst (N := 1) rfl ?_); refine aBx S ?_; clear S; intro gS w9 z9 S)
    | ((with_reducible refine gate_box rfl ?_); refine aBx S ?_; clear S; intro g9 w9 z9 S) | ((with_reducible refine gate_load rfl ?_); first | refine aLd S ?_ | refine aPt S ?_ | refine aL1 S ?_))
  go_loopw [14] (fun i wr => ∃ k : Nat, k ≤ 8 ∧ i = .int .i64 k ∧ (s.got.take k).all rng2 = true ∧ Sep [] w [aBox gS 30 7 [.int .i64 s.way, .int .i64 s.vsn, .int .i64 s.want, v1, v2, v3, .slice A4 8 c4]] wr) (fun i _ => 8 - (intOf i).toNat)
  case atStart => exact ⟨0, Nat.zero_le _, rfl, rfl, S⟩
  case round =>
    clear S
    obtain ⟨k, hk, rfl, hall, S⟩ := hrel
    have HA := Lib.hid hall
    clear hall
    by_cases hlt : k < 8
    · have hin : k < s.got.length := by rw [E1.out]; exact hlt
      obtain ⟨ad1, rfl, g1⟩ := row_int_at h14 k hin
      have HIN := Lib.hid hin
      have G1 := Lib.hid g1
      clear g1
      have p1 : (k : Int) < 8 := by omega
      cases o1 : rng2 (s.got[k]'HIN.out) with
      | false =>
        have R := Lib.hid (gotOk_bad HIN.out o1)
        have O1 := Lib.hid o1
        clear o1
        go_wp2_with (first
          | ((with_reducible refine gate_dst (N := 17) rfl ?_); refine wpList_rowint (by rfl) 3 _ rfl rfl (S.frame.cell G1.out) _ Try.underlying3 rfl ?_)
          | (go_at_call 146; (with_reducible refine (fateOf_n _ _ O1.out).mono ?_); rintro e w9 ⟨rfl, rfl⟩)
          | ((with_reducible refine gate_box rfl ?_); refine aBx S ?_; clear S; intro g9 w9 z9 S) | ((with_reducible refine gate_load rfl ?_); first | refine aLd S ?_ | refine aPt S ?_ | refine aL1 S ?_))
        go_ret
        exact ⟨by rw [R.out]; rfl, S.frame⟩
      | true =>
        have R := Lib.hid (allr_succ HIN.out HA.out o1)
        have O1 := Lib.hid o1
        clear o1
        go_wp2_with (first
          | ((with_reducible refine gate_dst (N := 17) rfl ?_); refine wpList_rowint (by rfl) 3 _ rfl rfl (S.frame.cell G1.out) _ Try.underlying3 rfl ?_)
          | (go_at_call 146; (with_reducible refine (fateOf_n _ _ O1.out).mono ?_); rintro e w9 ⟨rfl, rfl⟩)
          | ((with_reducible refine gate_box rfl ?_); refine aBx S ?_; clear S; intro g9 w9 z9 S) | ((with_reducible refine gate_load rfl ?_); first | refine aLd S ?_ | refine aPt S ?_ | refine aL1 S ?_))
        go_roundw
        case rel => exact ⟨k + 1, by omega, by go_num, R.out, S⟩
        case measure => simp [intOf]; omega
    · obtain rfl : k = 8 := by omega
      have R := Lib.hid (show gotOk s.got = true by have h := HA.out; rw [List.take_of_length_le (by rw [E1.out]; omega)] at h; simp [gotOk, E1.out, h])
      go_wp2
      go_ret
      exact ⟨by rw [R.out]; rfl, S.frame⟩
theorem stateSentOk_r (w : World) (s : St) (c0 : List Value) (h1 : tSt.rd w s c0) {r : Bool} (h : sentOk s = r) : Calls Try.prog 121 #[.agg c0.toArray] w (Ret (.bool r) w) := h ▸ stateSentOk_c w s c0 h1
theorem stateGotOk_r (w : World) (s : St) (c0 : List Value) (h1 : tSt.rd w s c0) {r : Bool} (h : gotOk s.got = r) : Calls Try.prog 122 #[.agg c0.toArray] w (Ret (.bool r) w) := h ▸ stateGotOk_c w s c0 h1
set_option maxHeartbeats 1600000 in
theorem StateOk_c (w : World) (s : St) (c0 : List Value) (h1 : tSt.rd w s c0) : Calls Try.prog 68 #[.agg c0.toArray] w (Ret (.bool (okSt s)) w) := by
  obtain ⟨v1, v2, v3, v4, rfl, h11, h12, h13, h14, ⟨i1, i2⟩, ⟨i3, i4⟩, i5, i6⟩ := id h1
  have S := Sep.start w
  have Q := Lib.hid h1
  have r : okSt s = (decide (0 ≤ s.way ∧ s.way ≤ 4) && decide (1 ≤ s.vsn ∧ s.vsn ≤ 9) && wantOk s && sentOk s && gotOk s.got) := rfl
  have R := Lib.hid r
  clear h1 r h11 h12 h13 h14 i1 i2 i3 i4 i5 i6
  by_cases e1 : s.way < 0
  case pos =>
    have r := Lib.hid (show okSt s = false by rw [R.out, decide_eq_false (by omega)]; rfl)
    go_enter Try.func68, Try.ntmps68
    go_wp2_with (first | ((with_reducible refine gate_box rfl ?_); refine aBx S ?_; clear S; intro g9 w9 z9 S) | ((with_reducible refine gate_load rfl ?_); first | refine aLd S ?_ | refine aPt S ?_ | refine aL1 S ?_))
    go_ret
    exact ⟨by rw [r.out]; rfl, S.frame⟩
  by_cases e2 : 4 < s.way
  case pos =>
    have r := Lib.hid (show okSt s = false by rw [R.out, decide_eq_false (by omega)]; rfl)
    have t1 : decide (s.way < 0) = false := decide_eq_false (by omega)
    go_enter Try.func68, Try.ntmps68
    go_wp2_with (first | ((with_reducible refine gate_box rfl ?_); refine aBx S ?_; clear S; intro g9 w9 z9 S) | ((with_reducible refine gate_load rfl ?_); first | refine aLd S ?_ | refine aPt S ?_ | refine aL1 S ?_))
    go_ret
    exact ⟨by rw [r.out]; rfl, S.frame⟩
  by_cases e3 : s.vsn < 1
  case pos =>
    have r := Lib.hid (show okSt s = false by rw [R.out, decide_eq_false (p := 1 ≤ s.vsn ∧ s.vsn ≤ 9) (by omega)]; simp)
    have t1 : decide (s.way < 0) = false := decide_eq_false (by omega)
    have t2 : decide (4 < s.way) = false := decide_eq_false (by omega)
    go_enter Try.func68, Try.ntmps68
    go_wp2_with (first | ((with_reducible refine gate_box rfl ?_); refine aBx S ?_; clear S; intro g9 w9 z9 S) | ((with_reducible refine gate_load rfl ?_); first | refine aLd S ?_ | refine aPt S ?_ | refine aL1 S ?_))
    go_ret
    exact ⟨by rw [r.out]; rfl, S.frame⟩
  by_cases e4 : 9 < s.vsn
  case pos =>
    have r := Lib.hid (show okSt s = false by rw [R.out, decide_eq_false (p := 1 ≤ s.vsn ∧ s.vsn ≤ 9) (by omega)]; simp)
    have t1 : decide (s.way < 0) = false := decide_eq_false (by omega)
    have t2 : decide (4 < s.way) = false := decide_eq_false (by omega)
    have t3 : decide (s.vsn < 1) = false := decide_eq_false (by omega)
    go_enter Try.func68, Try.ntmps68
    go_wp2_with (first | ((with_reducible refine gate_box rfl ?_); refine aBx S ?_; clear S; intro g9 w9 z9 S) | ((with_reducible refine gate_load rfl ?_); first | refine aLd S ?_ | refine aPt S ?_ | refine aL1 S ?_))
    go_ret
    exact ⟨by rw [r.out]; rfl, S.frame⟩
  have t1 : decide (s.way < 0) = false := decide_eq_false (by omega)
  have t2 : decide (4 < s.way) = false := decide_eq_false (by omega)
  have t3 : decide (s.vsn < 1) = false := decide_eq_false (by omega)
  have t4 : decide (9 < s.vsn) = false := decide_eq_false (by omega)
  have R2 := Lib.hid (show okSt s = (wantOk s && sentOk s && gotOk s.got) by rw [R.out, decide_eq_true (p := 0 ≤ s.way ∧ s.way ≤ 4) (by omega), decide_eq_true (p := 1 ≤ s.vsn ∧ s.vsn ≤ 9) (by omega)]; rfl)
  have fin : ∀ W : World, Fr w W → tSt.rd W s [.int .i64 s.way, .int .i64 s.vsn, .int .i64 s.want, v1, v2, v3, v4] := fun W f => tSt.fr f Q.out
  have FIN := Lib.hid fin
  clear R fin
  by_cases ew : s.way = 4
  · have tw : (s.way == 4) = true := by simpa using ew
    by_cases e5 : s.want = s.vsn + 1
    case neg =>
      have r := Lib.hid (show okSt s = false by rw [R2.out]; simp [wantOk, ew, e5])
      have t5 : (s.want != s.vsn + 1) = true := by simpa using e5
      have t5' : (s.want == s.vsn + 1) = false := by simpa using e5
      clear ew e5
      go_enter Try.func68, Try.ntmps68
      go_wp2_with (first | ((with_reducible refine gate_box rfl ?_); refine aBx S ?_; clear S; intro g9 w9 z9 S) | ((with_reducible refine gate_load rfl ?_); first | refine aLd S ?_ | refine aPt S ?_ | refine aL1 S ?_))
      go_ret
      exact ⟨by rw [r.out]; rfl, S.frame⟩
    have t5 : (s.want != s.vsn + 1) = false := by simpa using e5
    by_cases e6 : s.want ≤ 9
    case neg =>
      have r := Lib.hid (show okSt s = false by rw [R2.out]; simp [wantOk, ew, e6])
      have t6 : decide (9 < s.want) = true := decide_eq_true (by omega)
      clear ew e5
      go_enter Try.func68, Try.ntmps68
      go_wp2_with (first | ((with_reducible refine gate_box rfl ?_); refine aBx S ?_; clear S; intro g9 w9 z9 S) | ((with_reducible refine gate_load rfl ?_); first | refine aLd S ?_ | refine aPt S ?_ | refine aL1 S ?_))
      go_ret
      exact ⟨by rw [r.out]; rfl, S.frame⟩
    have t6 : decide (9 < s.want) = false := decide_eq_false (by omega)
    have R3 := Lib.hid (show okSt s = (sentOk s && gotOk s.got) by rw [R2.out, show wantOk s = true by unfold wantOk; rw [if_pos ew, decide_eq_true e5, decide_eq_true e6]; rfl]; rfl)
    clear ew e5 e6 R2
    cases o1 : sentOk s with
    | false =>
      have O1 := Lib.hid o1
      clear o1
      go_enter Try.func68, Try.ntmps68
      go_wp2_with (first
        | (go_at_call 121; (with_reducible refine (stateSentOk_r _ s _ (FIN.out _ S.frame) O1.out).mono ?_); rintro e w9 ⟨rfl, f9⟩; replace S := S.fr f9; clear f9)
        | ((with_reducible refine gate_box rfl ?_); refine aBx S ?_; clear S; intro g9 w9 z9 S) | ((with_reducible refine gate_load rfl ?_); first | refine aLd S ?_ | refine aPt S ?_ | refine aL1 S ?_))
      go_ret
      exact ⟨by rw [R3.out, O1.out]; rfl, S.frame⟩
    | true =>
      have O1 := Lib.hid o1
      clear o1
      go_enter Try.func68, Try.ntmps68
      go_wp2_with (first
        | (go_at_call 121; (with_reducible refine (stateSentOk_r _ s _ (FIN.out _ S.frame) O1.out).mono ?_); rintro e w9 ⟨rfl, f9⟩; replace S := S.fr f9; clear f9)
        | (go_at_call 122; (with_reducible refine (stateGotOk_c _ s _ (FIN.out _ S.frame)).mono ?_); rintro e w9 ⟨rfl, f9⟩; replace S := S.fr f9; clear f9)
        | ((with_reducible refine gate_box rfl ?_); refine aBx S ?_; clear S; intro g9 w9 z9 S) | ((with_reducible refine gate_load rfl ?_); first | refine aLd S ?_ | refine aPt S ?_ | refine aL1 S ?_))
      go_ret
      exact ⟨by rw [R3.out, O1.out]; simp, S.frame⟩
  · have tw : (s.way == 4) = false := by simpa using ew
    by_cases e5 : s.want = 0
    case neg =>
      have r := Lib.hid (show okSt s = false by rw [R2.out]; simp [wantOk, ew, e5])
      have t5 : (s.want != 0) = true := by simpa using e5
      have t5' : (s.want == 0) = false := by simpa using e5
      clear ew e5
      go_enter Try.func68, Try.ntmps68
      go_wp2_with (first | ((with_reducible refine gate_box rfl ?_); refine aBx S ?_; clear S; intro g9 w9 z9 S) | ((with_reducible refine gate_load rfl ?_); first | refine aLd S ?_ | refine aPt S ?_ | refine aL1 S ?_))
      go_ret
      exact ⟨by rw [r.out]; rfl, S.frame⟩
    have t5 : (s.want != 0) = false := by simpa using e5
    have R3 := Lib.hid (show okSt s = (sentOk s && gotOk s.got) by rw [R2.out]; simp [wantOk, ew, e5])
    clear ew e5 R2
    cases o1 : sentOk s with
    | false =>
      have O1 := Lib.hid o1
      clear o1
      go_enter Try.func68, Try.ntmps68
      go_wp2_with (first
        | (go_at_call 121; (with_reducible refine (stateSentOk_r _ s _ (FIN.out _ S.frame) O1.out).mono ?_); rintro e w9 ⟨rfl, f9⟩; replace S := S.fr f9; clear f9)
        | ((with_reducible refine gate_box rfl ?_); refine aBx S ?_; clear S; intro g9 w9 z9 S) | ((with_reducible refine gate_load rfl ?_); first | refine aLd S ?_ | refine aPt S ?_ | refine aL1 S ?_))
      go_ret
      exact ⟨by rw [R3.out, O1.out]; rfl, S.frame⟩
    | true =>
      have O1 := Lib.hid o1
      clear o1
      go_enter Try.func68, Try.ntmps68
      go_wp2_with (first
        | (go_at_call 121; (with_reducible refine (stateSentOk_r _ s _ (FIN.out _ S.frame) O1.out).mono ?_); rintro e w9 ⟨rfl, f9⟩; replace S := S.fr f9; clear f9)
        | (go_at_call 122; (with_reducible refine (stateGotOk_c _ s _ (FIN.out _ S.frame)).mono ?_); rintro e w9 ⟨rfl, f9⟩; replace S := S.fr f9; clear f9)
        | ((with_reducible refine gate_box rfl ?_); refine aBx S ?_; clear S; intro g9 w9 z9 S) | ((with_reducible refine gate_load rfl ?_); first | refine aLd S ?_ | refine aPt S ?_ | refine aL1 S ?_))
      go_ret
      exact ⟨by rw [R3.out, O1.out]; simp, S.frame⟩
end Go.Proofs.Ytapdcgjccckjeaa
