/- Slices of chains, and worlds, as data; what the laws' helpers for them come to. -/
import Derived.Test.YtapdcgjccckjeaaCh
namespace Go.Proofs.Ytapdcgjccckjeaa
set_option maxRecDepth 100000
set_option linter.unusedVariables false
set_option linter.unusedSimpArgs false
open Go.RowKit
def cntChS : List Ch → Nat
  | [] => 0
  | s :: ss => cntCh s + cntChS ss
theorem cntChS_append : ∀ (a b : List Ch), cntChS (a ++ b) = cntChS a + cntChS b
  | [], b => by simp [cntChS]
  | s :: a, b => by simp [cntChS, cntChS_append a b]; omega

theorem cntChS_take (xs : List Ch) (k : Nat) (h : k < xs.length) : cntChS (xs.take (k + 1)) = cntChS (xs.take k) + cntCh xs[k] := by
  rw [List.take_succ_eq_append_getElem h, cntChS_append]
  simp [cntChS]

theorem cntChS_le (xs : List Ch) (k : Nat) : cntChS (xs.take k) ≤ cntChS xs := by
  conv => rhs; rw [← List.take_append_drop k xs, cntChS_append]
  omega

theorem cntChS_get (xs : List Ch) (k : Nat) (h : k < xs.length) : cntCh xs[k] ≤ cntChS xs := by
  have h1 := cntChS_take xs k h
  have h2 := cntChS_le xs (k + 1)
  omega

set_option maxRecDepth 100000 in
set_option maxHeartbeats 1600000 in
theorem eqChainS_c (w : World) (v u : Value) (xs : List Ch) (h1 : tCh.row w v xs) (h2 : tCh.row w u xs) : Calls Try.prog 81 #[v, u] w (Ret (.bool true) w) := by
  obtain ⟨A1, c1, rfl⟩ := h1.val
  obtain ⟨A2, c2, rfl⟩ := h2.val
  have hm := h1.le
  have S := Sep.start w
  go_enter Try.func81, Try.ntmps81
  go_wp2
  go_loopw [5] (fun i wr => ∃ k : Nat, k ≤ xs.length ∧ i = .int .i64 k ∧ Sep [] w [] wr) (fun i _ => xs.length - (intOf i).toNat)
  case atStart => exact ⟨0, Nat.zero_le _, rfl, S⟩
  case round =>
    clear S
    obtain ⟨k, hk, rfl, S⟩ := hrel
    by_cases hlt : k < xs.length
    · obtain ⟨ad1, cs1, rfl, r1, g1⟩ := cellsAt_of_row h1 k hlt
      obtain ⟨ad2, cs2, rfl, r2, g2⟩ := cellsAt_of_row h2 k hlt
      have G1 := Lib.hid (fun (W : World) (f : Fr w W) => g1.fr f)
      have G2 := Lib.hid (fun (W : World) (f : Fr w W) => g2.fr f)
      have R1 := Lib.hid (fun (W : World) (f : Fr w W) => tCh.fr f r1)
      have R2 := Lib.hid (fun (W : World) (f : Fr w W) => tCh.fr f r2)
      have N1 := Lib.hid (tCh.len r1)
      have N2 := Lib.hid (tCh.len r2)
      clear g1 g2 r1 r2
      have p0 : (0 : Int) ≤ (k : Int) := Int.natCast_nonneg _
      have p1 : (k : Int) < (xs.length : Int) := by omega
      go_wp2
      have S0 := S
      refine wp_region_noPanic ?_
      refine wp_region_held_drew (S := Sep _ _ _) (by kernel_rfl) S0.drew (fun _ => ?_)
      replace S := S.drew
      clear S0
      refine tk 0 ?_
      (try simp only [Act.put, List.setIfInBounds_toArray, List.set_cons_zero, List.set_cons_succ])
      refine tk 1 ?_
      (try simp only [Act.put, List.setIfInBounds_toArray, List.set_cons_zero, List.set_cons_succ])
      refine tk 2 ?_
      (try simp only [Act.put, List.setIfInBounds_toArray, List.set_cons_zero, List.set_cons_succ])
      refine tk 3 ?_ (hy := by exact yRw (fun w' h => G1.out _ h.frame) (hn := N1.out))
      (try simp only [Act.put, List.setIfInBounds_toArray, List.set_cons_zero, List.set_cons_succ])
      refine tk 4 ?_
      (try simp only [Act.put, List.setIfInBounds_toArray, List.set_cons_zero, List.set_cons_succ])
      refine tk 5 ?_
      (try simp only [Act.put, List.setIfInBounds_toArray, List.set_cons_zero, List.set_cons_succ])
      refine tk 6 ?_
      (try simp only [Act.put, List.setIfInBounds_toArray, List.set_cons_zero, List.set_cons_succ])
      refine tk 7 ?_ (hy := by exact yRw (fun w' h => G2.out _ h.frame) (hn := N2.out))
      (try simp only [Act.put, List.setIfInBounds_toArray, List.set_cons_zero, List.set_cons_succ])
      refine rdy1 8 (fun K hK => ?_)
      go_simp; (skip; go_at_call 24; (with_reducible refine (eqChain_c _ xs[k] _ _ (R1.out _ S.frame) (R2.out _ S.frame)).mono ?_); rintro e w9 ⟨rfl, f9⟩; replace S := S.fr f9; clear f9)
      (first | refine hK.out _ _ (S.sub subA) (fun _ => ?_) | (go_wp2_with fail; refine hK.out _ _ (S.sub subA) (fun _ => ?_)))
      clear hK K
      (try simp only [Act.put, List.setIfInBounds_toArray, List.set_cons_zero, List.set_cons_succ])
      refine tk 9 ?_
      (try simp only [Act.put, List.setIfInBounds_toArray, List.set_cons_zero, List.set_cons_succ])
      refine wpAnyH_done (by kernel_rfl) ?_ _
      refine NoPanic.normal ?_
      go_wp2
      go_roundw
      case rel => exact ⟨k + 1, by omega, by go_num, S⟩
      case measure => simp [intOf]; omega
    · go_wp2
      go_ret
      exact ⟨rfl, S.frame⟩
set_option maxRecDepth 100000 in
set_option maxHeartbeats 1600000 in
theorem szChainS_c (w : World) (v : Value) (xs : List Ch) (left : Int) (h1 : tCh.row w v xs) (hl0 : 0 ≤ left) (hl1 : left ≤ 1048576) :
    Calls Try.prog 92 #[v, .int .i64 left] w (Ret (.int .i64 (szr left (xs.length + cntChS xs))) w) := by
  obtain ⟨A1, c1, rfl⟩ := h1.val
  have hm := h1.le
  have S := Sep.start w
  by_cases e0 : (xs.length : Int) ≤ left
  case neg =>
    have e : szr left (xs.length + cntChS xs) = -1 := szr_no (by omega)
    rw [e]
    clear e
    go_enter Try.func92, Try.ntmps92
    go_wp2
    go_ret
    exact ⟨rfl, S.frame⟩
  have pw : IntKind.i64.wrap (left - (xs.length : Int)) = left - (xs.length : Int) := IntWalk.i64_in _ (by omega)
  have t0 : decide (left - (xs.length : Int) < 0) = false := decide_eq_false (by omega)
  go_enter Try.func92, Try.ntmps92
  go_wp2
  go_loopw [1, 5] (fun l i wr => ∃ k : Nat, k ≤ xs.length ∧ i = .int .i64 k ∧ l = .int .i64 (left - xs.length - cntChS (xs.take k)) ∧ (xs.length + cntChS (xs.take k) : Int) ≤ left ∧ Sep [] w [] wr) (fun _ i _ => xs.length - (intOf i).toNat)
  case atStart => exact ⟨0, Nat.zero_le _, rfl, by simp [cntChS], by simpa [cntChS] using e0, S⟩
  case round =>
    clear S pw t0
    obtain ⟨k, hk, rfl, rfl, hle, S⟩ := hrel
    by_cases hlt : k < xs.length
    · obtain ⟨ad1, cs1, rfl, r1, g1⟩ := cellsAt_of_row h1 k hlt
      have N1 := Lib.hid (tCh.len r1)
      have TK := Lib.hid (cntChS_take xs k hlt)
      have LE := Lib.hid (cntChS_le xs (k + 1))
      have p0 : (0 : Int) ≤ (k : Int) := Int.natCast_nonneg _
      have p1 : (k : Int) < (xs.length : Int) := by omega
      have G1 := Lib.hid (fun (W : World) (f : Fr w W) => g1.fr f)
      have R1 := Lib.hid (fun (W : World) (f : Fr w W) => tCh.fr f r1)
      clear g1 r1
      by_cases e1 : (cntCh xs[k] : Int) ≤ left - xs.length - cntChS (xs.take k)
      · have s1 := Lib.hid (szr_yes e1)
        have t1 : decide (left - (xs.length : Int) - (cntChS (xs.take k) : Int) - (cntCh xs[k] : Int) < 0) = false := decide_eq_false (by omega)
        go_wp2_with (first
          | ((with_reducible refine gate_dst (N := 21) rfl ?_); refine aRw (G1.out _ S.frame) ?_ (hn := N1.out))
          | (go_at_call 32; (with_reducible refine (szChain_c _ xs[k] _ (left - (xs.length : Int) - (cntChS (xs.take k) : Int)) (R1.out _ S.frame) (by omega) (by omega)).mono ?_); rintro e w9 ⟨rfl, f9⟩; rw [s1.out]; replace S := S.fr f9; clear f9))
        go_roundw
        case rel => exact ⟨k + 1, by omega, by go_num, by rw [TK.out]; congr 1; omega, by rw [TK.out]; omega, S⟩
        case measure => simp [intOf]; omega
      · have s1 := Lib.hid (szr_no e1)
        have e : szr left (xs.length + cntChS xs) = -1 := szr_no (by have := TK.out; have := LE.out; omega)
        have E := Lib.hid e
        clear e
        go_wp2_with (first
          | ((with_reducible refine gate_dst (N := 21) rfl ?_); refine aRw (G1.out _ S.frame) ?_ (hn := N1.out))
          | (go_at_call 32; (with_reducible refine (szChain_c _ xs[k] _ (left - (xs.length : Int) - (cntChS (xs.take k) : Int)) (R1.out _ S.frame) (by omega) (by omega)).mono ?_); rintro e w9 ⟨rfl, f9⟩; rw [s1.out]; replace S := S.fr f9; clear f9))
        go_ret
        exact ⟨ret_int E.out.symm, S.frame⟩
    · obtain rfl : k = xs.length := by omega
      rw [List.take_length] at hle ⊢
      have e : szr left (xs.length + cntChS xs) = left - xs.length - cntChS xs := by rw [szr_yes (by omega)]; omega
      have E := Lib.hid e
      clear e
      go_wp2
      go_ret
      exact ⟨ret_int E.out.symm, S.frame⟩

def zChS : Ch := ⟨0, ⟨[], [], 0⟩, ⟨0, 0, 0, [], [], [], []⟩, [], []⟩
theorem zChS_own (w : World) : tCh.own w zChS [.int .i64 0, .slice none 0 0, .slice none 0 0, .int .i64 0, .int .i64 0, .int .i64 0, .int .i64 0, .slice none 0 0, .slice none 0 0, .slice none 0 0, .slice none 0 0, .slice none 0 0, .slice none 0 0] [] :=
  ⟨.slice none 0 0, .slice none 0 0, .slice none 0 0, .slice none 0 0, .slice none 0 0, .slice none 0 0, .slice none 0 0, .slice none 0 0, [], [], [], [], rfl, rfl, ⟨.slice none 0 0, .slice none 0 0, [], [], rfl, rfl, Ty.orow.nil _ _ _, Ty.orow.nil _ _ _, by unfold I64; simp [zChS]⟩, zStS_own w, Ty.orow.nil _ _ _, Ty.orow.nil _ _ _, by unfold I64; simp [zChS]⟩

set_option maxHeartbeats 1600000 in
theorem toChainS_c (w : World) (v : Value) (xs : List Ch) (h1 : tCh.row w v xs) (hm : xs.length ≤ 1048576) (hc : cntChS xs ≤ 1048576) : Calls Try.prog 93 #[v] w (RetRow tCh 33 xs w) := by
  obtain ⟨A1, c1, rfl⟩ := h1.val
  have S := Sep.start w
  go_enter Try.func93, Try.ntmps93
  go_wp2_with (first
    | ((with_reducible refine gate_dst (N := 7) rfl ?_); refine aMk (d := tCh) zChS S zChS_own (Nat.le_trans hm (by decide)) ?_; clear S; intro g7 w9 z9 S))
  go_loopw [4] (fun i wr => ∃ (k : Nat) (F : List Nat), k ≤ xs.length ∧ i = .int .i64 k ∧ Sep [] w [aRow tCh 33 (xs.take k ++ List.replicate (xs.length - k) zChS) (.slice (some ⟨g7, 0, none⟩) xs.length xs.length) F] wr) (fun i _ => xs.length - (intOf i).toNat)
  case atStart => exact ⟨0, _, Nat.zero_le _, rfl, by simpa using S⟩
  case round =>
    clear S
    obtain ⟨k, F, hk, rfl, S⟩ := hrel
    by_cases hlt : k < xs.length
    · obtain ⟨ad1, cs1, rfl, r1, g1⟩ := cellsAt_of_row h1 k hlt
      have N1 := Lib.hid (tCh.len r1)
      have G1 := Lib.hid (fun (W : World) (f : Fr w W) => g1.fr f)
      have R1 := Lib.hid (fun (W : World) (f : Fr w W) => tCh.fr f r1)
      have CN := Lib.hid (Nat.le_trans (cntChS_get xs k hlt) hc)
      have T0 := Lib.hid (show (xs.take k).length = k by simp; omega)
      have TR := Lib.hid (take_rep1 xs zChS k hlt)
      rw [take_rep xs zChS k hlt] at S
      clear g1 r1
      have p0 : (0 : Int) ≤ (k : Int) := Int.natCast_nonneg _
      have p1 : (k : Int) < (xs.length : Int) := by omega
      go_wp2_with (first
        | ((with_reducible refine gate_dst (N := 19) rfl ?_); refine aRw (G1.out _ S.frame) ?_ (hn := N1.out))
        | (go_at_call 34; (with_reducible refine (toChain_c _ xs[k] _ (R1.out _ S.frame) CN.out).mono ?_); rintro e w9 ⟨cs9, F9, rfl, h9, n9, b9, f9⟩; replace S := S.new (aOwn tCh _ cs9 F9) h9 n9 b9 f9; clear h9 n9 b9 f9)
        | ((with_reducible refine gate_st rfl ?_); refine aEl S delA delA T0.out ?_; clear S; intro F9 w9 S))
      rw [TR.out] at S
      go_roundw
      case rel => exact ⟨k + 1, _, by omega, by go_num, S⟩
      case measure => simp [intOf]; omega
    · obtain rfl : k = xs.length := by omega
      rw [List.take_length, Nat.sub_self, List.replicate_zero, List.append_nil] at S
      go_wp2
      go_ret
      exact S.retRow List.mem_cons_self

structure Wd where
  chains : List Ch
def tWd : Ty Wd where
  sz := 1
  rd := fun w x cs => ∃ v, cs = [v] ∧ tCh.row w v x.chains
  own := fun w x cs F => ∃ v, cs = [v] ∧ tCh.orow 33 w v x.chains F
  len := by rintro w x cs ⟨v, rfl, _⟩; rfl
  fr := by rintro w w' x cs f ⟨v, rfl, h⟩; exact ⟨v, rfl, h.fr f⟩
  own_rd := by rintro w x cs F ⟨v, rfl, h⟩; exact ⟨v, rfl, h.row⟩
  own_lt := by rintro w x cs F ⟨v, rfl, h⟩ g hg; exact h.lt g hg
  keep := by rintro w w' x cs F ⟨v, rfl, h⟩ hk; exact ⟨v, rfl, h.keep hk⟩
  one := by
    rintro w x cs F ⟨v, rfl, h⟩ u hu
    rw [List.mem_singleton.1 hu]
    exact h.one
theorem Sep.shutWd {F0 : List Nat} {w0 w : World} {L : List Asrt} {x : Wd} {v : Value} {F : List Nat} (S : Sep F0 w0 (aRow tCh 33 x.chains v F :: L) w) : Sep F0 w0 (aOwn tWd x [v] F :: L) w := by
  refine Sep.join [aRow tCh 33 x.chains v F] S (aOwn tWd x [v] F) (by simp [fps, aRow, aOwn]) fun h => ?_
  exact ⟨v, rfl, h (aRow tCh 33 x.chains v F) (by simp)⟩
def cntWd (x : Wd) : Nat := x.chains.length + cntChS x.chains
set_option maxHeartbeats 1600000 in
theorem eqWorld_c (w : World) (x : Wd) (c1 c2 : List Value) (h1 : tWd.rd w x c1) (h2 : tWd.rd w x c2) : Calls Try.prog 29 #[.agg c1.toArray, .agg c2.toArray] w (Ret (.bool true) w) := by
  obtain ⟨v1, rfl, h1⟩ := h1
  obtain ⟨v2, rfl, h2⟩ := h2
  have S := Sep.start w
  go_enter Try.func29, Try.ntmps29
  go_wp2_with (first
    | (go_at_call 81; (with_reducible refine (eqChainS_c _ _ _ x.chains (h1.fr S.frame) (h2.fr S.frame)).mono ?_); rintro e w9 ⟨rfl, f9⟩; replace S := S.fr f9; clear f9)
    | ((with_reducible refine gate_box rfl ?_); refine aBx S ?_; clear S; intro g9 w9 z9 S) | ((with_reducible refine gate_alloc rfl ?_); refine aAl S ?_; clear S; intro g9 w9 z9 S) | ((with_reducible refine gate_load rfl ?_); first | refine aLd S ?_ | refine aPt S ?_ | refine aL1 S ?_) | ((with_reducible refine gate_st rfl ?_); (first | refine aS1 S ?_ | refine aSt S ?_ | refine aSp S ?_); clear S; intro w9 S))
  go_ret
  exact ⟨rfl, S.frame⟩
set_option maxHeartbeats 1600000 in
theorem szWorld_c (w : World) (x : Wd) (c1 : List Value) (left : Int) (h1 : tWd.rd w x c1) (hl0 : 0 ≤ left) (hl1 : left ≤ 1048576) :
    Calls Try.prog 37 #[.agg c1.toArray, .int .i64 left] w (Ret (.int .i64 (szr left (cntWd x))) w) := by
  obtain ⟨v1, rfl, h1⟩ := h1
  have S := Sep.start w
  by_cases e1 : ((x.chains.length + cntChS x.chains : Nat) : Int) ≤ left
  · have s1 := Lib.hid (szr_yes e1)
    have E := Lib.hid (show szr left (cntWd x) = left - (x.chains.length + cntChS x.chains : Nat) from szr_yes e1)
    obtain ⟨n, hn⟩ : ∃ n : Nat, x.chains.length + cntChS x.chains = n := ⟨_, rfl⟩
    rw [hn] at s1 E e1
    have t1 : decide (left - (n : Int) < 0) = false := decide_eq_false (by omega)
    have HN := Lib.hid hn
    clear hn
    go_enter Try.func37, Try.ntmps37
    go_wp2_with (first
      | (go_at_call 92; (with_reducible refine (szChainS_c _ _ x.chains left (h1.fr S.frame) hl0 hl1).mono ?_); rintro e w9 ⟨rfl, f9⟩; rw [HN.out, s1.out]; replace S := S.fr f9; clear f9)
      | ((with_reducible refine gate_box rfl ?_); refine aBx S ?_; clear S; intro g9 w9 z9 S) | ((with_reducible refine gate_alloc rfl ?_); refine aAl S ?_; clear S; intro g9 w9 z9 S) | ((with_reducible refine gate_load rfl ?_); first | refine aLd S ?_ | refine aPt S ?_ | refine aL1 S ?_) | ((with_reducible refine gate_st rfl ?_); (first | refine aS1 S ?_ | refine aSt S ?_ | refine aSp S ?_); clear S; intro w9 S))
    go_ret
    exact ⟨ret_int E.out.symm, S.frame⟩
  · have s1 := Lib.hid (szr_no e1)
    have E := Lib.hid (show szr left (cntWd x) = -1 from szr_no e1)
    go_enter Try.func37, Try.ntmps37
    go_wp2_with (first
      | (go_at_call 92; (with_reducible refine (szChainS_c _ _ x.chains left (h1.fr S.frame) hl0 hl1).mono ?_); rintro e w9 ⟨rfl, f9⟩; rw [s1.out]; replace S := S.fr f9; clear f9)
      | ((with_reducible refine gate_box rfl ?_); refine aBx S ?_; clear S; intro g9 w9 z9 S) | ((with_reducible refine gate_alloc rfl ?_); refine aAl S ?_; clear S; intro g9 w9 z9 S) | ((with_reducible refine gate_load rfl ?_); first | refine aLd S ?_ | refine aPt S ?_ | refine aL1 S ?_) | ((with_reducible refine gate_st rfl ?_); (first | refine aS1 S ?_ | refine aSt S ?_ | refine aSp S ?_); clear S; intro w9 S))
    go_ret
    exact ⟨ret_int E.out.symm, S.frame⟩
set_option maxHeartbeats 1600000 in
theorem toWorld_c (w : World) (x : Wd) (c1 : List Value) (h1 : tWd.rd w x c1) (hb : cntWd x ≤ 1048576) : Calls Try.prog 39 #[.agg c1.toArray] w (RetOwn tWd x w) := by
  obtain ⟨v1, rfl, h1⟩ := h1
  have hc : x.chains.length ≤ 1048576 ∧ cntChS x.chains ≤ 1048576 := by unfold cntWd at hb; omega
  obtain ⟨b1, b2⟩ := hc
  have S := Sep.start w
  go_enter Try.func39, Try.ntmps39
  go_wp2_with (first
    | (go_at_call 93; (with_reducible refine (toChainS_c _ _ x.chains (h1.fr S.frame) b1 b2).mono ?_); rintro e w9 ⟨v9, F9, rfl, h9, n9, b9, f9⟩; obtain ⟨A9, c9, rfl⟩ := h9.row.val; replace S := S.new (aRow tCh 33 _ (.slice A9 _ c9) F9) h9 n9 b9 f9; clear h9 n9 b9 f9)
    | ((with_reducible refine gate_box rfl ?_); refine aBx S ?_; clear S; intro g9 w9 z9 S) | ((with_reducible refine gate_alloc rfl ?_); refine aAl S ?_; clear S; intro g9 w9 z9 S) | ((with_reducible refine gate_load rfl ?_); first | refine aLd S ?_ | refine aPt S ?_ | refine aL1 S ?_) | ((with_reducible refine gate_st rfl ?_); (first | refine aS1 S ?_ | refine aSt S ?_ | refine aSp S ?_); clear S; intro w9 S))
  have S2 := (Sep.only1 (a1 := aRow tCh _ x.chains _ _) S delA)
  (refine Sep.ret1 S rfl rfl memA Try.underlying47 rfl ts47 rfl ?_)
  exact (Sep.shutWd S2).retOwn List.mem_cons_self
end Go.Proofs.Ytapdcgjccckjeaa
