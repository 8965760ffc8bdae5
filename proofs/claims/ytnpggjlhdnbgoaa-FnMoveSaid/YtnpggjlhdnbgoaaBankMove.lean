/- Coins moved: what the reference's BankMove comes to. -/
import Derived.Test.YtnpggjlhdnbgoaaBankCopy
import Derived.Test.YtnpggjlhdnbgoaaUsers
namespace Go.Proofs.Ytnpggjlhdnbgoaa
set_option linter.unusedVariables false
set_option linter.unusedSimpArgs false
open Go.RowKit

/-- What all have of a kind. -/
def lst (b : Bk) (k : Int) : List Int := if k = 1 then b.own else b.notes
def setLst (b : Bk) (k : Int) (xs : List Int) : Bk := if k = 1 then { b with own := xs } else { b with notes := xs }
def at0 (xs : List Int) (i : Nat) : Int := xs.getD i 0
def addAt (xs : List Int) (i : Nat) (s : Int) : List Int := xs.set i (at0 xs i + s)
def nilBk : Bk := ⟨[], [], 0⟩
/-- May coins be moved? -/
def mvOk (b : Bk) (k fr ds s : Int) : Bool := okBk b && decide (1 ≤ k ∧ k ≤ 2) && decide (1 ≤ fr ∧ fr ≤ 3) && decide (1 ≤ ds ∧ ds ≤ 3) && decide (0 ≤ s) && decide (s ≤ at0 (lst b k) (fr.toNat - 1))
def moveBk (b : Bk) (k fr ds s : Int) : Bk := setLst b k (addAt (addAt (lst b k) (fr.toNat - 1) (-s)) (ds.toNat - 1) s)
def moveR (b : Bk) (k fr ds s : Int) : Bk × Bool := if mvOk b k fr ds s = true then (moveBk b k fr ds s, true) else (nilBk, false)
theorem mvOk_eq {b : Bk} {k fr ds s : Int} (h1 : okBk b = true) (h2 : 1 ≤ k ∧ k ≤ 2) (h3 : 1 ≤ fr ∧ fr ≤ 3) (h4 : 1 ≤ ds ∧ ds ≤ 3) (h5 : 0 ≤ s) : mvOk b k fr ds s = decide (s ≤ at0 (lst b k) (fr.toNat - 1)) := by
  rw [mvOk, h1, decide_eq_true h2, decide_eq_true h3, decide_eq_true h4, decide_eq_true h5]; rfl
theorem moveR_yes {b : Bk} {k fr ds s : Int} (h1 : okBk b = true) (h2 : 1 ≤ k ∧ k ≤ 2) (h3 : 1 ≤ fr ∧ fr ≤ 3) (h4 : 1 ≤ ds ∧ ds ≤ 3) (h5 : 0 ≤ s) (h6 : s ≤ at0 (lst b k) (fr.toNat - 1)) : moveR b k fr ds s = (moveBk b k fr ds s, true) := by
  rw [moveR, if_pos (by rw [mvOk_eq h1 h2 h3 h4 h5]; exact decide_eq_true h6)]
theorem moveR_no {b : Bk} {k fr ds s : Int} (h1 : okBk b = true) (h2 : 1 ≤ k ∧ k ≤ 2) (h3 : 1 ≤ fr ∧ fr ≤ 3) (h4 : 1 ≤ ds ∧ ds ≤ 3) (h5 : 0 ≤ s) (h6 : ¬ s ≤ at0 (lst b k) (fr.toNat - 1)) : moveR b k fr ds s = (nilBk, false) := by
  rw [moveR, if_neg (by rw [mvOk_eq h1 h2 h3 h4 h5, decide_eq_false h6]; simp)]
/-- A call that hands back a new struct, and a Bool. -/
def RetOwn2 {α : Type} (d : Ty α) (x : α × Bool) (w : World) : Ending → World → Prop := fun en w' => ∃ cs F, en = .returned (.tuple #[.agg cs.toArray, .bool x.2]) ∧ d.own w' x.1 cs F ∧ F.Nodup ∧ (∀ g ∈ F, w.heap.size ≤ g) ∧ Fr w w'
theorem nilBk_own (w : World) : tBk.own w nilBk [.slice none 0 0, .slice none 0 0, .int .i64 0] [] := ⟨_, _, [], [], rfl, rfl, Ty.orow.nil _ _ _, Ty.orow.nil _ _ _, by decide, by decide⟩
theorem setLst_own {b : Bk} {k : Int} {xs : List Int} (h : xs.length = (lst b k).length) : (setLst b k xs).own.length = b.own.length ∧ (setLst b k xs).notes.length = b.notes.length := by
  unfold setLst lst at *
  split <;> simp_all

theorem l1List1_c (w : World) (v1 v2 v3 : Value) : Calls Try.prog 56 #[.agg #[v1, v2, v3], .int .i64 1] w (Ret v1 w) := by
  have f := Fr.refl w
  go_enter Try.func56, Try.ntmps56
  go_wp2_with (first
    | ((with_reducible refine gate_dst (N := 2) rfl ?_); refine wpList_box rfl _ _ rfl #[v1, v2, v3] rfl ?_; intro g_k1 w9 hg_k1 k1 f9; have zf_k1 := f.size; have hl_k1 := k1.lt; have z9 := f9.size; replace f := f.trans f9; (try clear r_k1); have r_k1 := k1.cells))
  go_ret
  exact ⟨rfl, f⟩
theorem l1List2_c (w : World) (v1 v2 v3 : Value) (k : Int) (hk : ¬ k = 1) : Calls Try.prog 56 #[.agg #[v1, v2, v3], .int .i64 k] w (Ret v2 w) := by
  have f := Fr.refl w
  have kk : (k == 1) = false := by simp [hk]
  go_enter Try.func56, Try.ntmps56
  go_wp2_with (first
    | ((with_reducible refine gate_dst (N := 2) rfl ?_); refine wpList_box rfl _ _ rfl #[v1, v2, v3] rfl ?_; intro g_k1 w9 hg_k1 k1 f9; have zf_k1 := f.size; have hl_k1 := k1.lt; have z9 := f9.size; replace f := f.trans f9; (try clear r_k1); have r_k1 := k1.cells))
  go_ret
  exact ⟨rfl, f⟩
theorem okL_at {xs : List Int} (h : okL xs = true) (i : Nat) (hi : i < xs.length) : 0 ≤ xs[i] ∧ xs[i] ≤ 30 := by
  simp only [okL, Bool.and_eq_true, List.all_eq_true] at h
  have := h.2 _ (List.getElem_mem hi)
  simpa [rng] using this
theorem results_cell_row2 {P : Program} {fn : Func} {p u : Tmp} {ty : TypeId} (h : fn.results = #[.cell p ty, .tmp u]) (tmps : Array Value) (w : World) (g : Nat) (t : TypeId) (cs : Array Value) (fr : Nat × Nat) (d : TypeDesc)
    (hp : tmps.getD p undef = .pointer (some ⟨g, 0, none⟩)) (hg : w.heap[g]? = some (.cells cs t fr))
    (hu : P.underlying ty = some d) (hd : (match d with | .struct _ | .array _ _ => true | _ => false) = true) (hi : (P.info? ty).map (·.size) = some cs.size) (v : Value) (hv : tmps.getD u undef = v) :
    (results fn tmps).run P w = .ok (.tuple #[.agg cs, v]) w := by
  subst hv
  have hp' : tmps[p]?.getD undef = .pointer (some ⟨g, 0, none⟩) := by simpa using hp
  simp [results, h, hp', asAddr, run_loadVar_row w g t ty cs fr d hg hu hd hi, Sem.run_bind, Result.andThen]
/-- A store into an owned slice of ints. -/
theorem wpList_ostore {P : Program} {ops : Array Oper} {rest : List Oper} {o : Oper} {a : Act} {Q : Exit → Act → World → Prop} {W : World} {e g n cap i : Nat} {xs : List Int} {F : List Nat} (h : tInt.orow e W (.slice (some ⟨g, 0, none⟩) n cap) xs F) (hi : i < xs.length)
    (hgd : o.guard = none) (ty : TypeId) (x y : Operand) (ho : o.op = .store ty x y) (hx : a.eval x = .pointer (some ⟨g, i, none⟩)) (z : Int) (hy : a.eval y = .int .i64 z) (hs : (P.info? ty).map (·.size) = some 1)
    (hK : ∀ w1, tInt.orow e w1 (.slice (some ⟨g, 0, none⟩) n cap) (xs.set i z) F → Chg F W w1 → wpList P ops Q rest (a.put o.dst undef) w1) : wpList P ops Q (o :: rest) a W := by
  obtain ⟨g', y', e1, hF, hc, hf, hset⟩ := orow_int_at h hi
  cases e1
  refine wpList_plain hgd fun K hK' => ?_
  have hk := hK' _ _ (hK _ (hset z) ((Chg.refl F W).set (.inl hF) _))
  cases hq : P.info? ty with
  | none => simp [hq] at hs
  | some info =>
    have h1 : info.size = 1 := by simpa [hq] using hs
    unfold Oper.wp execOp
    simp [ho, hx, hy, Instr.storeAt, Instr.sureAddr, storeVar, sizeOf, typeInfo, hq, h1, Value.cells]
    have ha : (⟨g, i, none⟩ : Addr).add 0 = ⟨g, i, none⟩ := rfl
    simp only [storeCells, Sem.run_bind, run_store_int, stored, ha, hc, hf, Bool.false_eq_true, if_false, Result.andThen_ok, Sem.run_pure]
    exact hk
theorem orow_cell {w : World} {e g n cap i : Nat} {xs : List Int} {F : List Nat} (h : tInt.orow e w (.slice (some ⟨g, 0, none⟩) n cap) xs F) (hi : i < xs.length) : w.cell? ⟨g, i, none⟩ = some (.int .i64 xs[i]) := by
  obtain ⟨ad, e1, hc⟩ := row_int_at h.row i hi
  cases e1
  have e2 : (⟨g, 0, none⟩ : Addr).add i = ⟨g, i, none⟩ := by unfold Addr.add; split <;> simp_all
  rw [e2] at hc
  exact hc
theorem orow_free {w : World} {e g n cap i : Nat} {xs : List Int} {F : List Nat} (h : tInt.orow e w (.slice (some ⟨g, 0, none⟩) n cap) xs F) (hi : i < xs.length) : w.frozen? ⟨g, i, none⟩ = false := by
  obtain ⟨g', y, e1, _, _, hf, _⟩ := orow_int_at h hi
  cases e1
  exact hf
theorem at0_get {xs : List Int} {i : Nat} (h : i < xs.length) : xs[i] = at0 xs i := by simp [at0, h]
theorem addAt_len (xs : List Int) (i : Nat) (s : Int) : (addAt xs i s).length = xs.length := by simp [addAt]
theorem at0_addAt (xs : List Int) (i j : Nat) (s : Int) (hj : j < xs.length) : at0 (addAt xs i s) j = if i = j then at0 xs i + s else at0 xs j := by
  simp only [addAt, at0, List.getD_eq_getElem?_getD, List.getElem?_set]
  split
  · rename_i h
    subst h
    simp [hj]
  · rfl
end Go.Proofs.Ytnpggjlhdnbgoaa
