/- Ints appended onto an own row, whatever its room. -/
import Derived.Test.YthnjambkgldjdaaSep2
import Derived.ArgAppend
import Derived.OwnWalk
namespace Go.Proofs.Ythnjambkgldjdaa
set_option linter.unusedVariables false
set_option linter.unusedSimpArgs false
open Go.RowKit
theorem ints_of_elems {w : World} : ∀ {xs : List Int} {inner : List Value} {F2 : List Nat}, tInt.elems w xs inner F2 → inner = xs.map (Value.int .i64) ∧ F2 = []
  | [], _, _, h => ⟨h.1, h.2⟩
  | x :: xs, _, _, ⟨c, cs, Fa, Fb, e1, e2, h1, h2⟩ => by
    obtain ⟨r1, r2⟩ := ints_of_elems h2
    obtain ⟨q1, q2⟩ := h1
    subst q1; subst q2; subst r1; subst r2; subst e1; subst e2
    exact ⟨rfl, rfl⟩
theorem elems_of_ints (w : World) : ∀ xs : List Int, tInt.elems w xs (xs.map (Value.int .i64)) []
  | [] => ⟨rfl, rfl⟩
  | y :: ys => ⟨[.int .i64 y], _, [], [], rfl, rfl, ⟨rfl, rfl⟩, elems_of_ints w ys⟩
theorem Sep.single {F : List Nat} {W w1 : World} {a : Asrt} (c : Chg F W w1) (h : a.ok w1) (hb : ∀ g ∈ a.fp, g ∈ F ∨ W.heap.size ≤ g) (hn : a.fp.Nodup) : Sep F W [a] w1 := by
  refine ⟨c, ?_, ?_, ?_⟩
  · intro b hm
    rcases List.mem_cons.1 hm with rfl | hm
    · exact h
    · cases hm
  · intro b hm
    rcases List.mem_cons.1 hm with rfl | hm
    · exact hb
    · cases hm
  · simpa [fps] using hn
section
variable {P : Program} {ops : Array Oper} {rest : List Oper} {o : Oper} {a : Act} {Q : Exit → Act → World → Prop} {W w0 : World} {F0 : List Nat} {L L' : List Asrt}
theorem wpList_sappd (S : Sep F0 w0 L W) (hg : o.guard = none) (s x : Operand) (t : TypeId) (hop : o.op = Op.call { callee := Callee.builtin Builtin.append, args := #[s, x], argTypes := #[t, t] }) (e : TypeId) (i : TypeInfo)
    (h1 : P.underlying t = some (.slice e)) (h2 : P.info? e = some i) (h3 : i.zero = some (.int .i64 0)) (h4 : i.size = 1) (h5 : i.bytes = 8)
    {xs : List Int} {v : Value} {F : List Nat} (p : Del L (aRow tInt e xs v F) L') (hs : a.eval s = v) (ad : Addr) (m c : Nat) (ys : List Int) (hx : a.eval x = .slice (some ad) m c) (hm : ys.length = m) (h : tInt.row W (.slice (some ad) m c) ys) (hpos : 0 < m) (hle : xs.length + m ≤ 2097152)
    (hK : ∀ v' F' w1, Sep F0 w0 (aRow tInt e (xs ++ ys) v' F' :: L') w1 → wpList P ops Q rest (a.put o.dst v') w1) : wpList P ops Q (o :: rest) a W := by
  subst hm
  have S1 := S.pull p
  have ho := S1.ok _ List.mem_cons_self
  have hnd := S1.nodup List.mem_cons_self
  have hrow : tInt.row W v xs := Ty.orow.row ho
  obtain ⟨hl, inner, F2, hown, he, hF⟩ := ho
  obtain ⟨rfl, rfl⟩ := ints_of_elems he
  have hnews : ∀ j u, (ys.map (Value.int .i64))[j]? = some u → W.cell? (ad.add j) = some u := by
    intro j u hj
    rw [List.getElem?_map] at hj
    cases hq : ys[j]? with
    | none => rw [hq] at hj; cases hj
    | some y =>
      rw [hq] at hj
      obtain ⟨hl, hy⟩ := List.getElem?_eq_some_iff.1 hq
      obtain ⟨ad', e', hc⟩ := row_int_at h j hl
      cases e'
      rw [hc, hy]
      exact hj
  have hone : ∀ u ∈ ys.map (Value.int .i64), u.oneCell' = true := by
    intro u hu
    obtain ⟨y, _, rfl⟩ := List.mem_map.1 hu
    rfl
  have fin : ∀ v' w', w'.ownsRow 0 e 1 v' (xs.length + ys.length) (xs.map (Value.int .i64) ++ ys.map (Value.int .i64)) → tInt.orow e w' v' (xs ++ ys) (v'.ownBlock.toList ++ []) := by
    intro v' w' h9
    rw [← List.map_append, ← List.length_append] at h9
    exact Ty.orow.mk (by simpa using hle) h9 (elems_of_ints w' _)
  have grow : ∀ (v' : Value) (w' : World), w'.ownsRow W.heap.size e 1 v' (xs.length + ys.length) (xs.map (Value.int .i64) ++ ys.map (Value.int .i64)) → W.grownBy w' none → wpList P ops Q rest (a.put o.dst v') w' := by
    intro v' w' h9 hgr
    have h8 : w'.ownsRow 0 e 1 v' (xs.length + ys.length) (xs.map (Value.int .i64) ++ ys.map (Value.int .i64)) := ⟨h9.1, h9.2.imp id (fun ⟨g, cap, cur, h0, _, rest⟩ => ⟨g, cap, cur, h0, Nat.zero_le _, rest⟩)⟩
    have ho' := fin v' w' h8
    refine hK v' _ w' (Sep.callRow S p (Sep.single (a := aRow tInt e (xs ++ ys) v' (v'.ownBlock.toList ++ [])) ⟨hgr.os, hgr.tape, hgr.output, hgr.size, fun k hk _ => hgr.block k hk (by simp)⟩ ho' ?_ (Ty.orow.nodup tInt_flat ho')))
    intro q hq
    right
    rcases h9.2 with ⟨h0, _⟩ | ⟨g', cap', cur, h0, hlo, _⟩
    · rw [h0] at hq; simp [Value.ownBlock, aRow] at hq
    · rw [h0] at hq
      simp [Value.ownBlock, aRow] at hq
      omega
  rcases hown.2 with ⟨hv, hn0⟩ | ⟨g, cap, cur, hv, hr⟩
  · have hx0 : xs = [] := List.eq_nil_of_length_eq_zero hn0
    subst hx0
    exact wpList_append_grows W hg s x t hop e i (.int .i64 0) 1 8 h1 h2 h3 h4 h5 rfl (by decide) none 0 0 [] (by rw [hs, hv]) (fun _ => ⟨rfl, rfl⟩) rfl (fun _ h0 => by cases h0) ad ys.length c (ys.map (.int .i64)) hx (by simp) hnews hone (by omega) (by simp only [maxLen]; simp at hle; omega) (by simp at hle; omega) (by simpa using grow)
  · subst hv
    by_cases hroom : xs.length + ys.length ≤ cap
    · refine wpList_append_fits W hg s x t hop 0 e i 1 h1 h2 h4 g xs.length cap (xs.map (.int .i64)) hs hown ad ys.length c (ys.map (.int .i64)) hx (by simp) hnews hone hroom fun w' h9 hgr => ?_
      have ho' := fin _ w' h9
      refine hK _ _ w' (Sep.callRow S p (Sep.single (a := aRow tInt e (xs ++ ys) _ _) ⟨hgr.os, hgr.tape, hgr.output, hgr.size, fun k hk hn => hgr.block k hk (by rw [hF] at hn; simp [Value.ownBlock] at hn ⊢; omega)⟩ ho' ?_ (Ty.orow.nodup tInt_flat ho')))
      intro q hq
      left
      rw [hF]
      simpa [Value.ownBlock, aRow] using hq
    · refine wpList_append_grows W hg s x t hop e i (.int .i64 0) 1 8 h1 h2 h3 h4 h5 rfl (by decide) (some ⟨g, 0, none⟩) xs.length cap (xs.map (.int .i64)) hs (fun h0 => by cases h0) (by simp) ?_ ad ys.length c (ys.map (.int .i64)) hx (by simp) hnews hone (by omega) (by simp only [maxLen]; omega) (by omega) grow
      intro b hb j u hj
      cases hb
      rw [List.getElem?_map] at hj
      cases hq : xs[j]? with
      | none => rw [hq] at hj; cases hj
      | some y =>
        rw [hq] at hj
        obtain ⟨hl, hy⟩ := List.getElem?_eq_some_iff.1 hq
        obtain ⟨ad', e', hc⟩ := row_int_at hrow j hl
        cases e'
        rw [hc, hy]
        exact hj
end
end Go.Proofs.Ythnjambkgldjdaa
