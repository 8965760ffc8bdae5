/- Appending to a new slice, as one step of a region that draws its order. -/
import Derived.Test.YtnpggjlhdnbgoaaBase
import Derived.Deep.RegionLawGrows
import Derived.Deep.RegionHeldLaw
namespace Go.Proofs.Ytnpggjlhdnbgoaa
set_option linter.unusedVariables false
set_option linter.unusedSimpArgs false
open Go.RowKit
theorem Chg.setIn {a b : World} {g j : Nat} {u : Value} (h : Chg [g] a b) : Chg [g] a (b.setCell ⟨g, j, none⟩ u) := Chg.set h (.inl (by simp)) u
/-- A box that is read, another one that is written behind. -/
theorem held2 {w w' : World} {g1 g2 t1 : Nat} {cs1 : Array Value} (k1 : Box w g1 t1 cs1) (hne : g1 ≠ g2) (q : Chg [g2] w w') : (∀ j, w'.cell? ⟨g1, j, none⟩ = cs1[j]?) ∧ Chg [g2] w w' := ⟨(k1.chg q (fun h => hne (List.mem_singleton.1 h))).cells, q⟩
theorem flat_length {α : Type} {d : Ty α} (n : Nat) (css : List (List Value)) (h1 : css.length = n) (h2 : ∀ c ∈ css, c.length = d.sz) : css.flatten.length = n * d.sz := by
  subst h1
  induction css with
  | nil => simp
  | cons c cs ih =>
    simp only [List.flatten_cons, List.length_append, List.length_cons]
    rw [ih (fun x hx => h2 x (List.mem_cons_of_mem _ hx)), h2 c (List.mem_cons_self ..), Nat.succ_mul]
    omega
/-- Ints appended to an empty slice. -/
theorem step_app {P : Program} {ops : Array Oper} {o : Oper} {a : Act} {w : World} {K : Act → World → Prop} {Q : Exit → Act → World → Prop} {E : Prop}
    (hg : o.guard = none) (s x : Operand) (t : TypeId) (hop : o.op = Op.call { callee := Callee.builtin Builtin.append, args := #[s, x], argTypes := #[t, t] }) (e : TypeId) (i : TypeInfo)
    (h1 : P.underlying t = some (.slice e)) (h2 : P.info? e = some i) (h3 : i.zero = some (.int .i64 0)) (h4 : i.size = 1) (h5 : i.bytes = 8)
    (g : Nat) (hs : a.eval s = .slice (some ⟨g, 0, none⟩) 0 0) (v : Value) (xs : List Int) (hx : a.eval x = v) (h : tInt.row w v xs) (hpos : 0 < xs.length) (hle : xs.length ≤ 2097152)
    (hK : ∀ A c w' F, tInt.orow e w' (.slice A xs.length c) xs F → F.Nodup → (∀ q ∈ F, w.heap.size ≤ q) → Fr w w' → K (a.put o.dst (.slice A xs.length c)) w') :
    if Region.wanted o (yielded ops a.tmps) = true then Oper.wp P o a w K Q else E := by
  obtain ⟨A, c, rfl⟩ := h.val
  obtain ⟨ad, rfl, _⟩ := row_int_at h 0 hpos
  refine step_append_grows hg s x t hop e i (.int .i64 0) 1 8 h1 h2 h3 h4 h5 rfl (by decide) (some ⟨g, 0, none⟩) 0 0 [] hs (fun h0 => by cases h0) rfl (fun _ _ j u hj => by simp at hj) ad xs.length c (xs.map (.int .i64)) hx (by simp) ?_ ?_ (by omega) (by simp only [maxLen]; omega) (by omega) ?_
  · intro j u hj
    rw [List.getElem?_map] at hj
    cases hq : xs[j]? with
    | none => rw [hq] at hj; cases hj
    | some y =>
      rw [hq] at hj
      obtain ⟨hl, hy⟩ := List.getElem?_eq_some_iff.1 hq
      obtain ⟨ad', e', hc⟩ := row_int_at h j hl
      cases e'
      rw [hc, hy]
      exact hj
  · intro u hu
    obtain ⟨y, _, rfl⟩ := List.mem_map.1 hu
    rfl
  · intro v' w' hown hgr
    have hle2 : xs.length ≤ 2097152 := hle
    have he : ∀ ys : List Int, tInt.elems w' ys (ys.map (Value.int .i64)) [] := by
      intro ys
      induction ys with
      | nil => exact ⟨rfl, rfl⟩
      | cons y ys ih => exact ⟨[.int .i64 y], _, [], [], rfl, rfl, ⟨rfl, rfl⟩, ih⟩
    rw [Nat.zero_add, List.nil_append] at hown
    have hown0 : w'.ownsRow 0 e tInt.sz v' xs.length (xs.map (Value.int .i64)) := ⟨hown.1, hown.2.imp id (fun ⟨g, cap, cur, h0, _, rest⟩ => ⟨g, cap, cur, h0, Nat.zero_le _, rest⟩)⟩
    have ho : tInt.orow e w' v' xs (v'.ownBlock.toList ++ []) := Ty.orow.mk hle2 hown0 (he xs)
    obtain ⟨A', c', rfl⟩ := ho.row.val
    refine hK A' c' w' _ ho (ho.nodup tInt_flat) ?_ ⟨hgr.os, hgr.tape, hgr.output, hgr.size, fun k hk _ => hgr.block k hk (by simp)⟩
    intro q hq
    have hb := hown.2
    rcases hb with ⟨h0, _⟩ | ⟨g', cap', cur, h0, hlo, _⟩
    · rw [h0] at hq; simp [Value.ownBlock] at hq
    · rw [h0] at hq
      simp [Value.ownBlock] at hq
      omega
end Go.Proofs.Ytnpggjlhdnbgoaa
