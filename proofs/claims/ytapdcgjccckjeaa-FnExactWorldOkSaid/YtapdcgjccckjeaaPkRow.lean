/- Packets in slices of a call's own: a field written, a packet written. -/
import Derived.Test.YtapdcgjccckjeaaPkS
namespace Go.Proofs.Ytapdcgjccckjeaa
set_option maxRecDepth 100000
set_option linter.unusedVariables false
set_option linter.unusedSimpArgs false
open Go.RowKit
theorem orow_pk_at {w : World} {A : Option Addr} {n cap e k : Nat} {xs : List Pk} {F : List Nat} (h : tPk.orow e w (.slice A n cap) xs F) (hk : k < xs.length) :
    ∃ g, A = some ⟨g, 0, none⟩ ∧ g ∈ F ∧ xs[k].ok64 ∧ (∀ j, j < 7 → w.cell? ⟨g, k * 7 + j, none⟩ = xs[k].cells[j]?) ∧ (∀ j, w.frozen? ⟨g, j, none⟩ = false) ∧
      ∀ (j : Nat) (u : Value) (y : Pk), y.ok64 → xs[k].cells.set j u = y.cells → j < 7 → tPk.orow e (w.setCell ⟨g, k * 7 + j, none⟩ u) (.slice A n cap) (xs.set k y) F := by
  obtain ⟨g, cap', e'⟩ := h.shape (by omega)
  simp only [Value.slice.injEq] at e'
  obtain ⟨rfl, rfl, rfl⟩ := e'
  obtain ⟨ck, Fk, h2, h3, h4, _, _, h5, h6, _, h7⟩ := h.at_ (h.nodup tPk_flat) hk
  obtain ⟨⟨rfl, ho⟩, rfl⟩ := h3
  refine ⟨g, rfl, h4, ho, fun j hj => ?_, h6, fun j u y hy he hj => ?_⟩
  · have hl : j < xs[k].cells.length := by simpa [Pk.cells] using hj
    rw [List.getElem?_eq_getElem hl]
    exact h5 j hl
  · exact h7 j u y (fun W hW => ⟨⟨he, hy⟩, rfl⟩) hj
/-- A packet written whole. -/
theorem orow_pk_put {w : World} {n cap e k g : Nat} {xs : List Pk} {F : List Nat} (h : tPk.orow e w (.slice (some ⟨g, 0, none⟩) n cap) xs F) (hk : k < xs.length) (p : Pk) (hp : p.ok64) :
    tPk.orow e (((((((w.setCell ⟨g, k * 7 + 0, none⟩ (.int .i64 p.seq)).setCell ⟨g, k * 7 + 1, none⟩ (.int .i64 p.kind)).setCell ⟨g, k * 7 + 2, none⟩ (.int .i64 p.frm)).setCell ⟨g, k * 7 + 3, none⟩ (.int .i64 p.dst)).setCell ⟨g, k * 7 + 4, none⟩ (.int .i64 p.sum)).setCell ⟨g, k * 7 + 5, none⟩ (.int .i64 p.til)).setCell ⟨g, k * 7 + 6, none⟩ (.int .i64 p.ver)) (.slice (some ⟨g, 0, none⟩) n cap) (xs.set k p) F := by
  have step : ∀ (W : World) (ys : List Pk) (hy : k < ys.length) (j : Nat) (u : Value) (y : Pk), tPk.orow e W (.slice (some ⟨g, 0, none⟩) n cap) ys F → y.ok64 → ys[k].cells.set j u = y.cells → j < 7 → tPk.orow e (W.setCell ⟨g, k * 7 + j, none⟩ u) (.slice (some ⟨g, 0, none⟩) n cap) (ys.set k y) F := by
    intro W ys hy j u y ho hy64 he hj
    obtain ⟨g', e1, _, _, _, _, hs⟩ := orow_pk_at ho hy
    cases e1
    exact hs j u y hy64 he hj
  obtain ⟨_, _, _, ho, _, _, _⟩ := orow_pk_at h hk
  obtain ⟨o1, o2, o3, o4, o5, o6, o7⟩ := ho
  obtain ⟨p1, p2, p3, p4, p5, p6, p7⟩ := hp
  have a1 := step _ xs hk 0 (.int .i64 p.seq) { xs[k] with seq := p.seq } h ⟨p1, o2, o3, o4, o5, o6, o7⟩ rfl (by decide)
  have a2 := step _ _ (by simpa using hk) 1 (.int .i64 p.kind) { xs[k] with seq := p.seq, kind := p.kind } a1 ⟨p1, p2, o3, o4, o5, o6, o7⟩ (by rw [List.getElem_set_self]; rfl) (by decide)
  have a3 := step _ _ (by simpa using hk) 2 (.int .i64 p.frm) { xs[k] with seq := p.seq, kind := p.kind, frm := p.frm } a2 ⟨p1, p2, p3, o4, o5, o6, o7⟩ (by rw [List.getElem_set_self]; rfl) (by decide)
  have a4 := step _ _ (by simpa using hk) 3 (.int .i64 p.dst) { xs[k] with seq := p.seq, kind := p.kind, frm := p.frm, dst := p.dst } a3 ⟨p1, p2, p3, p4, o5, o6, o7⟩ (by rw [List.getElem_set_self]; rfl) (by decide)
  have a5 := step _ _ (by simpa using hk) 4 (.int .i64 p.sum) { xs[k] with seq := p.seq, kind := p.kind, frm := p.frm, dst := p.dst, sum := p.sum } a4 ⟨p1, p2, p3, p4, p5, o6, o7⟩ (by rw [List.getElem_set_self]; rfl) (by decide)
  have a6 := step _ _ (by simpa using hk) 5 (.int .i64 p.til) { xs[k] with seq := p.seq, kind := p.kind, frm := p.frm, dst := p.dst, sum := p.sum, til := p.til } a5 ⟨p1, p2, p3, p4, p5, p6, o7⟩ (by rw [List.getElem_set_self]; rfl) (by decide)
  have a7 := step _ _ (by simpa using hk) 6 (.int .i64 p.ver) p a6 ⟨p1, p2, p3, p4, p5, p6, p7⟩ (by rw [List.getElem_set_self]; rfl) (by decide)
  simpa only [List.set_set] using a7
theorem run_store_at {P : Program} {w : World} {g j : Nat} {k : IntKind} {z : Int} {v : Value} (hc : w.cell? ⟨g, j, none⟩ = some v) (hf : w.frozen? ⟨g, j, none⟩ = false) : (store ⟨g, j, none⟩ (.int k z)).run P w = .ok () (w.setCell ⟨g, j, none⟩ (.int k z)) := by
  rw [run_store_int]
  simp [stored, hc, hf]
/-- A packet stored into an owned slice. -/
theorem wpList_pkstore {P : Program} {ops : Array Oper} {rest : List Oper} {o : Oper} {a : Act} {Q : Exit → Act → World → Prop} {W : World} {e g n cap k : Nat} {xs : List Pk} {F : List Nat} (h : tPk.orow e W (.slice (some ⟨g, 0, none⟩) n cap) xs F) (hk : k < xs.length) (p : Pk) (hp : p.ok64)
    (hgd : o.guard = none) (ty : TypeId) (x y : Operand) (ho : o.op = .store ty x y) (hx : a.eval x = .pointer (some ⟨g, k * 7, none⟩)) (hy : a.eval y = .agg p.cells.toArray) (hs : (P.info? ty).map (·.size) = some 7)
    (hK : ∀ w1, tPk.orow e w1 (.slice (some ⟨g, 0, none⟩) n cap) (xs.set k p) F → Chg F W w1 → wpList P ops Q rest (a.put o.dst undef) w1) : wpList P ops Q (o :: rest) a W := by
  have hput := orow_pk_put h hk p hp
  obtain ⟨g', e1, hF, _, hc, hf, _⟩ := orow_pk_at h hk
  cases e1
  have hch : Chg F W _ := ((((((((Chg.refl F W).set (p := ⟨g, k * 7 + 0, none⟩) (.inl hF) (.int .i64 p.seq)).set (p := ⟨g, k * 7 + 1, none⟩) (.inl hF) (.int .i64 p.kind)).set (p := ⟨g, k * 7 + 2, none⟩) (.inl hF) (.int .i64 p.frm)).set (p := ⟨g, k * 7 + 3, none⟩) (.inl hF) (.int .i64 p.dst)).set (p := ⟨g, k * 7 + 4, none⟩) (.inl hF) (.int .i64 p.sum)).set (p := ⟨g, k * 7 + 5, none⟩) (.inl hF) (.int .i64 p.til)).set (p := ⟨g, k * 7 + 6, none⟩) (.inl hF) (.int .i64 p.ver))
  refine wpList_plain hgd fun K hK' => ?_
  have hkk := hK' _ _ (hK _ hput hch)
  have c0 : ∀ j, j < 7 → ∃ v, W.cell? ⟨g, k * 7 + j, none⟩ = some v := fun j hj => ⟨_, (hc j hj).trans (List.getElem?_eq_getElem (by simpa [Pk.cells] using hj))⟩
  have far : ∀ (w : World) (i j : Nat) (u : Value), i ≠ j → (w.setCell ⟨g, k * 7 + i, none⟩ u).cell? ⟨g, k * 7 + j, none⟩ = w.cell? ⟨g, k * 7 + j, none⟩ := fun w i j u hne => World.cell?_setCell_other _ _ _ _ (by simp <;> omega)
  have fr : ∀ (w : World) (i j : Nat) (u : Value), (w.setCell ⟨g, k * 7 + i, none⟩ u).frozen? ⟨g, k * 7 + j, none⟩ = w.frozen? ⟨g, k * 7 + j, none⟩ := fun w i j u => World.frozen?_setCell _ _ _ _
  have hadd : ∀ j, (⟨g, k * 7, none⟩ : Addr).add j = ⟨g, k * 7 + j, none⟩ := fun j => by unfold Addr.add; split <;> simp_all
  obtain ⟨v0, d0⟩ := c0 0 (by decide)
  obtain ⟨v1, d1⟩ := c0 1 (by decide)
  obtain ⟨v2, d2⟩ := c0 2 (by decide)
  obtain ⟨v3, d3⟩ := c0 3 (by decide)
  obtain ⟨v4, d4⟩ := c0 4 (by decide)
  obtain ⟨v5, d5⟩ := c0 5 (by decide)
  obtain ⟨v6, d6⟩ := c0 6 (by decide)
  have hr : (storeCells ⟨g, k * 7, none⟩ p.cells).run P W = .ok () (((((((W.setCell ⟨g, k * 7 + 0, none⟩ (.int .i64 p.seq)).setCell ⟨g, k * 7 + 1, none⟩ (.int .i64 p.kind)).setCell ⟨g, k * 7 + 2, none⟩ (.int .i64 p.frm)).setCell ⟨g, k * 7 + 3, none⟩ (.int .i64 p.dst)).setCell ⟨g, k * 7 + 4, none⟩ (.int .i64 p.sum)).setCell ⟨g, k * 7 + 5, none⟩ (.int .i64 p.til)).setCell ⟨g, k * 7 + 6, none⟩ (.int .i64 p.ver)) := by
    unfold Pk.cells
    simp only [storeCells, Sem.run_bind, hadd]
    rw [run_store_at d0 (hf _), Result.andThen_ok]
    rw [run_store_at (v := v1) (by rw [far _ _ _ _ (by decide)]; exact d1) (by rw [fr]; exact hf _), Result.andThen_ok]
    rw [run_store_at (v := v2) (by rw [far _ _ _ _ (by decide), far _ _ _ _ (by decide)]; exact d2) (by rw [fr, fr]; exact hf _), Result.andThen_ok]
    rw [run_store_at (v := v3) (by rw [far _ _ _ _ (by decide), far _ _ _ _ (by decide), far _ _ _ _ (by decide)]; exact d3) (by rw [fr, fr, fr]; exact hf _), Result.andThen_ok]
    rw [run_store_at (v := v4) (by rw [far _ _ _ _ (by decide), far _ _ _ _ (by decide), far _ _ _ _ (by decide), far _ _ _ _ (by decide)]; exact d4) (by rw [fr, fr, fr, fr]; exact hf _), Result.andThen_ok]
    rw [run_store_at (v := v5) (by rw [far _ _ _ _ (by decide), far _ _ _ _ (by decide), far _ _ _ _ (by decide), far _ _ _ _ (by decide), far _ _ _ _ (by decide)]; exact d5) (by rw [fr, fr, fr, fr, fr]; exact hf _), Result.andThen_ok]
    rw [run_store_at (v := v6) (by rw [far _ _ _ _ (by decide), far _ _ _ _ (by decide), far _ _ _ _ (by decide), far _ _ _ _ (by decide), far _ _ _ _ (by decide), far _ _ _ _ (by decide)]; exact d6) (by rw [fr, fr, fr, fr, fr, fr]; exact hf _), Result.andThen_ok]
    rfl
  have hvs : (Value.agg p.cells.toArray).cells = p.cells.toArray := rfl
  have hvn : p.cells.toArray.size = 7 := rfl
  cases hq : P.info? ty with
  | none => simp [hq] at hs
  | some info =>
    have h1 : info.size = 7 := by simpa [hq] using hs
    unfold Oper.wp execOp
    simp [ho, hx, hy, Instr.storeAt, Instr.sureAddr, storeVar, sizeOf, typeInfo, hq, hvs, hvn, h1, hr, - List.size_toArray]
    exact hkk
end Go.Proofs.Ytapdcgjccckjeaa
