/- As Own, at the door's seat; rows of strings. -/
import Derived.Test.YtphojlkljlnfjaaDoorTypes
import Derived.Test.YtphojlkljlnfjaaDoorPk
import Derived.Test.YtphojlkljlnfjaaDoorSep2
import Derived.ArgAppend
import Derived.OwnWalk
import Derived.Laws.CopyOwn
namespace Go.Proofs.YtphojlkljlnfjaaDoor
set_option maxRecDepth 100000
set_option linter.unusedVariables false
set_option linter.unusedSimpArgs false
open Go.RowKit
/-! ## Parts, by permutation -/
section
variable {F0 : List Nat} {w0 w : World} {L : List Asrt} {a : Asrt}
theorem Sep.convP (S : Sep F0 w0 (a :: L) w) (bs : List Asrt) (hf : (fps bs).Perm a.fp) (h : ∀ b ∈ bs, b.ok w) : Sep F0 w0 (bs ++ L) w := by
  refine ⟨S.chg, fun b hb => ?_, fun b hb g hg => ?_, ?_⟩
  · rcases List.mem_append.1 hb with hb | hb
    · exact h b hb
    · exact S.ok b (List.mem_cons_of_mem _ hb)
  · rcases List.mem_append.1 hb with hb | hb
    · refine S.base a (by simp) g (hf.mem_iff.1 ?_)
      obtain ⟨A1, A2, rfl⟩ := List.append_of_mem hb
      simp [fps_append, fps, hg]
    · exact S.base b (List.mem_cons_of_mem _ hb) g hg
  · rw [fps_append]
    exact (List.Perm.append_right _ hf).nodup_iff.2 S.nd
theorem Sep.joinP (bs : List Asrt) (S : Sep F0 w0 (bs ++ L) w) (a : Asrt) (F : List Nat) (hp : F.Perm a.fp) (hs : F.Sublist (fps bs)) (h : (∀ b ∈ bs, b.ok w) → a.ok w) : Sep F0 w0 (a :: L) w := by
  refine ⟨S.chg, fun b hb => ?_, fun b hb g hg => ?_, ?_⟩
  · rcases List.mem_cons.1 hb with rfl | hb
    · exact h (fun b hb => S.ok b (by simp [hb]))
    · exact S.ok b (by simp [hb])
  · rcases List.mem_cons.1 hb with rfl | hb
    · obtain ⟨c, hc, hg⟩ := mem_fps (hs.subset (hp.mem_iff.2 hg))
      exact S.base c (by simp [hc]) g hg
    · exact S.base b (by simp [hb]) g hg
  · have := S.nd
    rw [fps_append] at this
    have h2 : (F ++ fps L).Nodup := (List.Sublist.append hs (List.Sublist.refl _)).nodup this
    exact (List.Perm.append_right _ hp).nodup_iff.1 h2
theorem Sep.one1 {F : List Nat} {W w1 : World} {a : Asrt} (c : Chg F W w1) (h : a.ok w1) (hb : ∀ g ∈ a.fp, g ∈ F ∨ W.heap.size ≤ g) (hn : a.fp.Nodup) : Sep F W [a] w1 := by
  refine ⟨c, ?_, ?_, by simpa [fps] using hn⟩
  · intro b hm
    rw [List.mem_singleton.1 hm]
    exact h
  · intro b hm
    rw [List.mem_singleton.1 hm]
    exact hb
end
/-! ## Cells of an element -/
theorem addr_add_add (ad : Addr) (i j : Nat) : (ad.add i).add j = ad.add (i + j) := by
  unfold Addr.add
  by_cases hi : i = 0 <;> by_cases hj : j = 0 <;> simp [hi, hj, Nat.add_assoc]
structure CellsAt (w : World) (ad : Addr) (cs : List Value) : Prop where
  cells : ∀ j, j < cs.length → w.cell? (ad.add j) = cs[j]?
theorem CellsAt.fr {w w' : World} {ad : Addr} {cs : List Value} (h : CellsAt w ad cs) (f : Fr w w') : CellsAt w' ad cs := ⟨fun j hj => by
  have h1 := h.cells j hj
  rw [List.getElem?_eq_getElem hj] at h1 ⊢
  exact f.cell h1⟩
theorem CellsAt.at_ {w : World} {ad : Addr} {cs : List Value} (h : CellsAt w ad cs) (j : Nat) {v : Value} (hv : cs[j]? = some v) : w.cell? (ad.add j) = some v := by
  rw [h.cells j (List.getElem?_eq_some_iff.1 hv).1, hv]
theorem cellsAt_of_row {α : Type} {d : Ty α} {w : World} {A : Option Addr} {n c : Nat} {xs : List α} (h : d.row w (.slice A n c) xs) (k : Nat) (hk : k < xs.length) : ∃ ad cs, A = some ad ∧ d.rd w xs[k] cs ∧ CellsAt w (ad.add (k * d.sz)) cs := by
  obtain ⟨A', c', e, h1, h2, h3⟩ := h
  obtain ⟨ad, cs, e1, hr, hc⟩ := h3 k hk
  cases e
  subst e1
  exact ⟨ad, cs, rfl, hr, ⟨fun j hj => by rw [addr_add_add, hc j hj, List.getElem?_eq_getElem hj]⟩⟩
/-! ## Kinds that lead nowhere: what is read can be owned -/
def Ty.plain {α : Type} (d : Ty α) : Prop := ∀ {w : World} {x : α} {cs : List Value}, d.rd w x cs → ∀ w', d.own w' x cs []
theorem tInt_plain : tInt.plain := fun h _ => ⟨h, rfl⟩
theorem tBool_plain : tBool.plain := fun h _ => ⟨h, rfl⟩
theorem tPk_plain : tPk.plain := fun h _ => ⟨h, rfl⟩
theorem row_news {α : Type} {d : Ty α} (hp : d.plain) {w : World} {A : Option Addr} {n c : Nat} {ys : List α} (h : d.row w (.slice A n c) ys) :
    ∃ news : List Value, news.length = ys.length * d.sz ∧ (∀ ad, A = some ad → ∀ j u, news[j]? = some u → w.cell? (ad.add j) = some u) ∧ ∀ w', d.elems w' ys news [] := by
  have key : ∀ k, k ≤ ys.length → ∃ news : List Value, news.length = k * d.sz ∧ (∀ ad, A = some ad → ∀ j u, news[j]? = some u → w.cell? (ad.add j) = some u) ∧ ∀ w', d.elems w' (ys.take k) news [] := by
    intro k
    induction k with
    | zero => exact fun _ => ⟨[], by simp, (fun _ _ j u hj => by simp at hj), fun w' => by rw [List.take_zero]; exact ⟨rfl, rfl⟩⟩
    | succ k ih =>
      intro hk
      obtain ⟨news, hl, hc, he⟩ := ih (by omega)
      obtain ⟨ad, cs, e, hr, hcs⟩ := cellsAt_of_row h k (by omega)
      have hcl : cs.length = d.sz := d.len hr
      refine ⟨news ++ cs, by rw [List.length_append, hl, hcl, Nat.succ_mul], fun ad' e' j u hj => ?_, fun w' => ?_⟩
      · by_cases hjl : j < news.length
        · rw [List.getElem?_append_left hjl] at hj
          exact hc ad' e' j u hj
        · rw [List.getElem?_append_right (by omega)] at hj
          have := hcs.at_ _ hj
          rw [e] at e'
          cases e'
          rw [addr_add_add, hl] at this
          rw [show j = k * d.sz + (j - k * d.sz) from by omega]
          exact this
      · rw [List.take_succ_eq_append_getElem (by omega)]
        have := (he w').append (Ty.elems.single (hp hr w'))
        simpa using this
  have := key ys.length (Nat.le_refl _)
  rwa [List.take_length] at this
theorem row_some {α : Type} {d : Ty α} {w : World} {A : Option Addr} {n c : Nat} {ys : List α} (h : d.row w (.slice A n c) ys) (hn : 0 < ys.length) : ∃ ad, A = some ad := by
  obtain ⟨ad, _, e, _⟩ := cellsAt_of_row h 0 hn
  exact ⟨ad, e⟩
section
variable {α : Type} {d : Ty α} {ops : Array Oper} {rest : List Oper} {o : Oper} {a : Act} {Q : Exit → Act → World → Prop} {W w0 : World} {F0 : List Nat} {L L' : List Asrt}
/-- Appended to an own row: elements whose cells lie somewhere, and what they own (G2, out of the parts C). -/
theorem run_appg (C : List Asrt) {xs ys : List α} {v : Value} {F G2 : List Nat} {e : Nat} (S : Sep F0 w0 (aRow d e xs v F :: (C ++ L')) W) (s x : Operand) (t : TypeId) (hop : o.op = Op.call { callee := Callee.builtin Builtin.append, args := #[s, x], argTypes := #[t, t] }) (ht : TySlc t e) {z : Value} {m b : Nat} (hi : TyElem e z m b) (hzs : z.cells.size = m) (hm : m = d.sz) (hm0 : 0 < m) (hb : b ≤ 1000)
    (hs : a.eval s = v) (A : Option Addr) (c n : Nat) (hx : a.eval x = .slice A n c) (hn : ys.length = n) (news : List Value) (hnl : news.length = n * d.sz) (hA : A = none → c = 0) (hc : ∀ ad, A = some ad → ∀ j u, news[j]? = some u → W.cell? (ad.add j) = some u) (h1c : ∀ u ∈ news, u.oneCell' = true)
    (he2 : ∀ w', (∀ g ∈ G2, w'.heap[g]? = W.heap[g]?) → d.elems w' ys news G2) (hG : G2.Sublist (fps C)) (hpos : 0 < n ∨ ∃ g k cap, v = .slice (some ⟨g, 0, none⟩) k cap) (hA0 : 0 < n → ∃ ad, A = some ad) (hle : xs.length + n ≤ 2097152) :
    ∃ v' F' w1, Sep F0 w0 (aRow d e (xs ++ ys) v' F' :: L') w1 ∧ (execOp a.eval o).run Tryd.prog W = .ok (.value v') w1 := by
  subst hm
  subst hn
  obtain ⟨i, hi0, hz⟩ := Option.map_eq_some_iff.1 hi.h
  simp only [Prod.mk.injEq] at hz
  obtain ⟨hz0, hz1, hz2⟩ := hz
  have hnd := S.nd
  have ho := S.ok (aRow d e xs v F) List.mem_cons_self
  have hrow : d.row W v xs := Ty.orow.row ho
  have S' : Sep F0 w0 ((aRow d e xs v F :: C) ++ L') W := S
  have hlt2 : ∀ g ∈ G2, g < W.heap.size := fun g hg => by
    obtain ⟨c1, hc1, hg1⟩ := mem_fps (hG.subset hg)
    exact c1.lt (S.ok c1 (by simp [hc1])) g hg1
  obtain ⟨hl, inner, F2, hown, he, hF⟩ := ho
  have hlt1 : ∀ g ∈ F2, g < W.heap.size := he.lt
  have hA1 : fps (aRow d e xs v F :: C) = F ++ fps C := rfl
  have hnd1 : (F ++ fps C).Nodup := by
    have := hnd
    rw [show fps (aRow d e xs v F :: (C ++ L')) = F ++ fps (C ++ L') from rfl, fps_append, ← List.append_assoc] at this
    exact (List.nodup_append.1 this).1
  have hb2 : ∀ n : Nat, n ≤ 2097152 → n * b ≤ 140737488355328 := fun n hn => Nat.le_trans (Nat.mul_le_mul hn hb) (by decide)
  have el : ∀ w', (∀ g ∈ F2 ++ G2, w'.heap[g]? = W.heap[g]?) → d.elems w' (xs ++ ys) (inner ++ news) (F2 ++ G2) := fun w' hk =>
    (he.keep fun g hg => hk g (List.mem_append_left _ hg)).append (he2 w' fun g hg => hk g (List.mem_append_right _ hg))
  have grow : ∀ (v' : Value) (w' : World), w'.ownsRow W.heap.size e d.sz v' (xs.length + ys.length) (inner ++ news) → W.grownBy w' none → (execOp a.eval o).run Tryd.prog W = .ok (.value v') w' → ∃ v' F' w1, Sep F0 w0 (aRow d e (xs ++ ys) v' F' :: L') w1 ∧ (execOp a.eval o).run Tryd.prog W = .ok (.value v') w1 := by
    intro v' w' h9 hgr hrun
    have h8 : w'.ownsRow 0 e d.sz v' (xs ++ ys).length (inner ++ news) := by
      rw [List.length_append]
      exact ⟨h9.1, h9.2.imp id (fun ⟨g, cap, cur, h0, _, rest⟩ => ⟨g, cap, cur, h0, Nat.zero_le _, rest⟩)⟩
    have hob : ∀ q ∈ v'.ownBlock.toList, W.heap.size ≤ q := by
      intro q hq
      rcases h9.2 with ⟨h0, _⟩ | ⟨g', cap', cur, h0, hlo, _⟩
      · rw [h0] at hq; simp [Value.ownBlock] at hq
      · rw [h0] at hq
        simp [Value.ownBlock] at hq
        omega
    have ho' : d.orow e w' v' (xs ++ ys) (v'.ownBlock.toList ++ (F2 ++ G2)) := Ty.orow.mk (by simpa using hle) h8 (el w' fun g hg => hgr.block g (by rcases List.mem_append.1 hg with h | h; exact hlt1 g h; exact hlt2 g h) (by simp))
    refine ⟨v', _, w', Sep.call (aRow d e xs v F :: C) S' (Sep.one1 (a := aRow d e (xs ++ ys) v' (v'.ownBlock.toList ++ (F2 ++ G2))) ⟨hgr.os, hgr.tape, hgr.output, hgr.size, fun k hk _ => hgr.block k hk (by simp)⟩ ho' ?_ ?_), hrun⟩
    · intro q hq
      rcases List.mem_append.1 hq with hq | hq
      · exact .inr (hob q hq)
      · left
        rw [hA1, hF]
        rcases List.mem_append.1 hq with hq | hq
        · simp [hq]
        · exact List.mem_append_right _ (hG.subset hq)
    · refine List.nodup_append.2 ⟨by cases v'.ownBlock <;> simp, ?_, fun x hx y hy exy => ?_⟩
      · refine List.Sublist.nodup (List.Sublist.append ?_ hG) hnd1
        rw [hF]
        exact List.sublist_append_right _ _
      · have h1 := hob x hx
        have h2 : y < W.heap.size := by rcases List.mem_append.1 hy with h | h; exact hlt1 y h; exact hlt2 y h
        omega
  have fits : ∀ (g k cap : Nat) (w' : World), v = .slice (some ⟨g, 0, none⟩) k cap → w'.ownsRow 0 e d.sz (.slice (some ⟨g, 0, none⟩) (xs.length + ys.length) cap) (xs.length + ys.length) (inner ++ news) → W.grownBy w' (some g) → (execOp a.eval o).run Tryd.prog W = .ok (.value (.slice (some ⟨g, 0, none⟩) (xs.length + ys.length) cap)) w' → ∃ v' F' w1, Sep F0 w0 (aRow d e (xs ++ ys) v' F' :: L') w1 ∧ (execOp a.eval o).run Tryd.prog W = .ok (.value v') w1 := by
    intro g k cap w' hv h9 hgr hrun
    have hob : v.ownBlock = some g := by rw [hv]; rfl
    rw [hob] at hF
    rw [hF] at hnd1
    have hgn : ∀ q ∈ F2 ++ G2, q ≠ g := by
      intro q hq e0
      subst e0
      have h1 : q ∉ F2 ++ fps C := by
        have : ([q] ++ (F2 ++ fps C)).Nodup := by simpa using hnd1
        exact (List.nodup_cons.1 this).1
      rcases List.mem_append.1 hq with h | h
      · exact h1 (List.mem_append_left _ h)
      · exact h1 (List.mem_append_right _ (hG.subset h))
    rw [← List.length_append] at h9
    have ho' : d.orow e w' (.slice (some ⟨g, 0, none⟩) (xs.length + ys.length) cap) (xs ++ ys) ([g] ++ (F2 ++ G2)) := by
      have h9' : w'.ownsRow 0 e d.sz (.slice (some ⟨g, 0, none⟩) (xs.length + ys.length) cap) (xs ++ ys).length (inner ++ news) := by rw [List.length_append] at h9 ⊢; exact h9
      exact Ty.orow.mk (by simpa using hle) h9' (el w' fun q hq => hgr.block q (by rcases List.mem_append.1 hq with h | h; exact hlt1 q h; exact hlt2 q h) (fun e0 => hgn q hq (by cases e0; rfl)))
    refine ⟨_, _, w', Sep.call (aRow d e xs v F :: C) S' (Sep.one1 (a := aRow d e (xs ++ ys) _ ([g] ++ (F2 ++ G2))) ⟨hgr.os, hgr.tape, hgr.output, hgr.size, fun q hq hn => hgr.block q hq (fun e0 => hn (by cases e0; rw [hA1, hF]; simp))⟩ ho' ?_ ?_), hrun⟩
    · intro q hq
      left
      rw [hA1, hF]
      rcases List.mem_append.1 hq with hq | hq
      · simp at hq ⊢; exact .inl hq
      · rcases List.mem_append.1 hq with hq | hq
        · simp [hq]
        · exact List.mem_append_right _ (hG.subset hq)
    · show ([g] ++ (F2 ++ G2)).Nodup
      refine List.Sublist.nodup ?_ hnd1
      rw [← List.append_assoc]
      exact List.Sublist.append (List.Sublist.refl _) hG
  rcases hown.2 with ⟨hv, hn0⟩ | ⟨g, cap, cur, hv, hr⟩
  · have hx0 : xs = [] := List.eq_nil_of_length_eq_zero hn0
    subst hx0
    obtain ⟨rfl, rfl⟩ : inner = [] ∧ F2 = [] := he
    have hpos' : 0 < ys.length := by
      rcases hpos with h | ⟨g, k, cap, h⟩
      · exact h
      · rw [hv] at h; cases h
    obtain ⟨ad, rfl⟩ := hA0 hpos'
    obtain ⟨v', w', hrun, r1, r2, _⟩ := run_append_own (P := Tryd.prog) W W.heap.size t o.type e i z d.sz b ht.u hi0 hz0 hz1 hz2 hzs hm0 (.slice none 0 0) 0 [] (World.ownsRow_nil W _ e d.sz) ad ys.length c news hnl (hc ad rfl) h1c (by simp only [maxLen]; simp at hle; omega) (by simp at hle; simpa using hb2 _ hle) (Nat.le_refl _)
    exact grow v' w' (by simpa using r1) r2 (by simp [execOp, hop, resolve, invoke, builtin, hs, hv, hx, hrun, Result.andThen])
  · subst hv
    have hA2 : A = none → ys.length = 0 := fun h => by
      rcases Nat.eq_zero_or_pos ys.length with h0 | h0
      · exact h0
      · obtain ⟨ad, h1⟩ := hA0 h0
        rw [h] at h1
        cases h1
    by_cases hroom : xs.length + ys.length ≤ cap
    · cases hAc : A with
      | some ad =>
        obtain ⟨w', hrun, r1, r2⟩ := run_append_fits (P := Tryd.prog) W 0 t o.type e i d.sz ht.u hi0 hz1 g xs.length cap inner hown ad ys.length c news hnl (hc ad hAc) h1c hroom
        exact fits g _ cap w' rfl r1 r2 (by simp [execOp, hop, resolve, invoke, builtin, hs, hx, hAc, hrun, Result.andThen])
      | none =>
        have h0 := hA2 hAc
        have hnews : news = [] := List.eq_nil_of_length_eq_zero (by rw [hnl, h0]; simp)
        have hc0 := hA hAc
        have hrun := run_append_owned_none (P := Tryd.prog) W 0 t o.type e i d.sz ht.u hi0 _ xs.length inner hown
        exact fits g _ cap W rfl (by rw [h0, hnews]; simpa using hown) (World.grownBy.refl W _) (by simp [execOp, hop, resolve, invoke, builtin, hs, hx, hAc, h0, hc0, hrun, Result.andThen])
    · obtain ⟨_, hcap, _⟩ := hr.2
      obtain ⟨ad, rfl⟩ := hA0 (by omega)
      obtain ⟨v', w', hrun, r1, r2⟩ := run_append_arg_grows (P := Tryd.prog) W t o.type e i z d.sz b ht.u hi0 hz0 hz1 hz2 hzs hm0 ⟨g, 0, none⟩ xs.length cap inner he.len (fun j u hj => hown.cells (g := g) rfl j u hj) ad ys.length c news hnl (hc ad rfl) (by omega) (by simp only [maxLen]; omega) (hb2 _ hle)
      exact grow v' w' r1 r2 (by simp [execOp, hop, resolve, invoke, builtin, hs, hx, hrun, Result.andThen])
end
section
variable {α : Type} {d : Ty α} {ops : Array Oper} {rest : List Oper} {o : Oper} {a : Act} {Q : Exit → Act → World → Prop} {W w0 : World} {F0 : List Nat} {L L1 L' : List Asrt} {K : Act → World → Prop}
theorem run_apO {xs ys us : List α} {v z : Value} {F G : List Nat} {e t m b n c : Nat} {s x : Operand} {A : Option Addr} (S : Sep F0 w0 L W) (p : Del L (aRow d e xs v F) L1) (q : Del L1 (aRow d e ys (.slice A n c) G) L') (hpos : 0 < n ∨ ∃ g k cap, v = .slice (some ⟨g, 0, none⟩) k cap) (hle : xs.length + n ≤ 2097152) (hop : o.op = Op.call { callee := Callee.builtin Builtin.append, args := #[s, x], argTypes := #[t, t] }) (ht : TySlc t e) (hi : TyElem e z m b) (hzs : z.cells.size = m) (hm : m = d.sz) (hm0 : 0 < m) (hb : b ≤ 1000) (hs : a.eval s = v) (hx : a.eval x = .slice A n c) (hn : ys.length = n) (hus : xs ++ ys = us) : ∃ A' c' F' w1, Sep F0 w0 (aRow d e us (.slice A' us.length c') F' :: L') w1 ∧ (execOp a.eval o).run Tryd.prog W = .ok (.value (.slice A' us.length c')) w1 := by
  have S1 := S.pull p
  have S2 : Sep F0 w0 (aRow d e xs v F :: (aRow d e ys (.slice A n c) G :: L')) W := (S1.pull (.tail _ q)).pull (.tail _ (.head _ _))
  have ho := S2.ok (aRow d e ys (.slice A n c) G) (by simp)
  have hrow : d.row W (.slice A n c) ys := Ty.orow.row ho
  obtain ⟨hl, inner, F3, hown, he, hF⟩ := ho
  subst hn
  have hc : ∀ ad, A = some ad → ∀ j u, inner[j]? = some u → W.cell? (ad.add j) = some u := by
    intro ad hA j u hj
    subst hA
    rcases hown.2 with ⟨h0, _⟩ | ⟨g', cap', cur, h0, _⟩
    · cases h0
    · cases h0
      rw [addr_add]
      have := hown.cells (g := g') rfl j u hj
      rwa [addr_add] at this
  have hq := run_appg (d := d) (o := o) (a := a) [aRow d e ys (.slice A ys.length c) G] (xs := xs) (ys := ys) (G2 := F3) S2 s x t hop ht hi hzs hm hm0 hb hs A c _ hx rfl inner he.len hrow.nilc hc he.one (fun w' hk => he.keep hk) (by show F3.Sublist (G ++ []); rw [hF, List.append_nil]; exact List.sublist_append_right _ _) hpos (fun h0 => row_some hrow h0) hle
  obtain ⟨v', F', w1, S1, hr⟩ := hq
  obtain ⟨A', c', rfl⟩ := (Ty.orow.row (S1.row (d := d) (xs := xs ++ ys) List.mem_cons_self)).val
  rw [hus] at S1 hr
  exact ⟨A', c', F', w1, S1, hr⟩
theorem aApO {xs ys us : List α} {v z : Value} {F G : List Nat} {e t m b n c : Nat} {s x : Operand} {A : Option Addr} (S : Sep F0 w0 L W) (p : Del L (aRow d e xs v F) L1) (q : Del L1 (aRow d e ys (.slice A n c) G) L') (hpos : 0 < n ∨ ∃ g k cap, v = .slice (some ⟨g, 0, none⟩) k cap) (hle : xs.length + n ≤ 2097152) (h : ∀ (A' : Option Addr) (c' : Nat) (F' : List Nat) w1, Sep F0 w0 (aRow d e us (.slice A' us.length c') F' :: L') w1 → wpList Tryd.prog ops Q rest (a.put o.dst (.slice A' us.length c')) w1) (hw : Region.wanted o (yielded ops a.tmps) = true := by exact rfl) (hop : o.op = Op.call { callee := Callee.builtin Builtin.append, args := #[s, x], argTypes := #[t, t] } := by exact rfl) (ht : TySlc t e := by exact inferInstance) (hi : TyElem e z m b := by exact inferInstance) (hzs : z.cells.size = m := by exact rfl) (hm : m = d.sz := by exact rfl) (hm0 : 0 < m := by decide) (hb : b ≤ 1000 := by decide) (hs : a.eval s = v := by exact rfl) (hx : a.eval x = .slice A n c := by exact rfl) (hn : ys.length = n := by first | exact rfl | assumption) (hus : xs ++ ys = us := by first | exact List.nil_append _ | exact rfl) : wpList Tryd.prog ops Q (o :: rest) a W := by
  obtain ⟨A', c', F', w1, S1, hr⟩ := run_apO (o := o) (a := a) S p q hpos hle hop ht hi hzs hm hm0 hb hs hx hn hus
  exact wpList_of_run hw hr (h A' c' F' w1 S1)
end

/-! ## Strings -/
def tStr : Ty (List UInt8) where
  sz := 1
  rd := fun _ x cs => cs = [.string ⟨x.toArray⟩]
  own := fun _ x cs F => cs = [.string ⟨x.toArray⟩] ∧ F = []
  len := fun h => by rw [h]; rfl
  fr := fun _ h => h
  own_rd := fun h => h.1
  own_lt := fun h g hg => by rw [h.2] at hg; cases hg
  keep := fun h _ => h
  one := fun h u hu => by rw [h.1] at hu; rw [List.mem_singleton.1 hu]; rfl
theorem one_tStr : OneCell tStr (fun l => Value.string ⟨l.toArray⟩) := ⟨rfl, Iff.rfl, fun _ => rfl⟩
instance : TySlc 56 9 := ⟨Tryd.underlying56⟩
theorem tiS : (Tryd.prog.info? 9).map (fun i => (i.zero, i.size, i.bytes)) = some (some (.string ⟨#[]⟩), 1, 16) := by kernel_rfl
instance : TyElem 9 (.string ⟨#[]⟩) 1 16 := ⟨tiS⟩
theorem orow_str1 (W : World) (x : List UInt8) : tStr.orow 9 (W.alloc (.cells #[.string ⟨x.toArray⟩] 9)) (.slice (some ⟨W.heap.size, 0, none⟩) 1 1) [x] [W.heap.size] := by
  have h := World.ownsRow_lit (base := 0) (e := 9) (size := 1) W #[.string ⟨x.toArray⟩] 1 (Nat.zero_le _) (by simp only [maxLen]; omega) (by simp)
  exact ⟨by simp, _, [], h, ⟨[.string ⟨x.toArray⟩], [], [], [], rfl, rfl, ⟨rfl, rfl⟩, rfl, rfl⟩, rfl⟩
section
variable {ops : Array Oper} {rest : List Oper} {o : Oper} {a : Act} {Q : Exit → Act → World → Prop} {W w0 : World} {F0 : List Nat} {L : List Asrt}
/-- A slice of one string. -/
theorem aStr1 (x : List UInt8) (S : Sep F0 w0 L W) (h : ∀ g w1, W.heap.size ≤ g → Sep F0 w0 (aRow tStr 9 [x] (.slice (some ⟨g, 0, none⟩) 1 1) [g] :: L) w1 → wpList Tryd.prog ops Q rest (a.put o.dst (.slice (some ⟨g, 0, none⟩) 1 1)) w1) (hw : Region.wanted o (yielded ops a.tmps) = true := by exact rfl)
    (hr : (execOp a.eval o).run Tryd.prog W = .ok (.value (.slice (some ⟨W.heap.size, 0, none⟩) 1 1)) (W.alloc (.cells #[.string ⟨x.toArray⟩] 9)) := by first | (go_simp; done) | (go_simp; rfl)) : wpList Tryd.prog ops Q (o :: rest) a W :=
  wpList_of_run hw hr (h _ _ (Nat.le_refl _) (S.new (aRow tStr 9 [x] _ [W.heap.size]) (orow_str1 W x) (by simp [aRow]) (fun q hq => by rw [List.mem_singleton.1 hq]; exact Nat.le_refl _) ((Fr.refl W).alloc _)))
end
end Go.Proofs.YtphojlkljlnfjaaDoor
