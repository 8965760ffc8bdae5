/- An element of an own row, lent out and given back. -/
import Derived.Test.YtapdcgjccckjeaaOwn2
namespace Go.Proofs.Ytapdcgjccckjeaa
set_option maxRecDepth 100000
set_option linter.unusedVariables false
set_option linter.unusedSimpArgs false
open Go.RowKit
theorem Sep.rowNd {α : Type} {d : Ty α} {F0 : List Nat} {w0 w : World} {L : List Asrt} {e : Nat} {xs : List α} {v : Value} {F : List Nat} (S : Sep F0 w0 L w) (h : aRow d e xs v F ∈ L) : F.Nodup := S.nodup h
/-- An own row whose element between A and B (of the cells cs) is lent out with all that it owns. -/
def aRest {α : Type} (d : Ty α) (e : Nat) (A B : List α) (cs : List Value) (v : Value) (F1 F3 : List Nat) : Asrt where
  fp := v.ownBlock.toList ++ (F1 ++ F3)
  ok := fun w => (A.length + (1 + B.length) ≤ 2097152) ∧ cs.length = d.sz ∧ ∃ c1 c2, w.ownsRow 0 e d.sz v (A.length + (1 + B.length)) (c1 ++ (cs ++ c2)) ∧ d.elems w A c1 F1 ∧ d.elems w B c2 F3
  lt := by
    rintro w ⟨_, _, c1, c2, h1, h2, h3⟩ g hg
    rcases List.mem_append.1 hg with hg | hg
    · exact (h1.lt g (by simpa using hg)).2
    rcases List.mem_append.1 hg with hg | hg
    · exact h2.lt g hg
    · exact h3.lt g hg
  keep := by
    rintro w w' ⟨h0, h9, c1, c2, h1, h2, h3⟩ hk
    exact ⟨h0, h9, c1, c2, own_keep' h1 (fun k hk' => hk k (by simp [hk'])), h2.keep (fun g hg => hk g (List.mem_append_right _ (List.mem_append_left _ hg))), h3.keep (fun g hg => hk g (List.mem_append_right _ (List.mem_append_right _ hg)))⟩
section
variable {α : Type} {d : Ty α} {w w0 : World} {F0 : List Nat} {L : List Asrt} {e : Nat} {A B : List α} {x : α} {cs : List Value} {v : Value} {F F1 Fx F3 : List Nat}
theorem Sep.lend (S : Sep F0 w0 (aRow d e (A ++ x :: B) v F :: L) w) : ∃ cs F1 Fx F3, F = v.ownBlock.toList ++ (F1 ++ (Fx ++ F3)) ∧ Sep F0 w0 (aOwn d x cs Fx :: aRest d e A B cs v F1 F3 :: L) w := by
  have ho := S.ok (aRow d e (A ++ x :: B) v F) (by simp)
  obtain ⟨hlen, inner, F2, hown, he, hF⟩ := ho
  obtain ⟨c1, c2, F1, F', rfl, rfl, h1, h2⟩ := he.split
  obtain ⟨ck, c3, Fx, F3, rfl, rfl, h3, h4⟩ := h2
  refine ⟨ck, F1, Fx, F3, hF, ?_⟩
  refine S.convP [aOwn d x ck Fx, aRest d e A B ck v F1 F3] ?_ ?_
  · show (Fx ++ ((v.ownBlock.toList ++ (F1 ++ F3)) ++ [])).Perm F
    rw [hF, List.append_nil]
    refine List.perm_append_comm.trans ?_
    simp only [List.append_assoc]
    refine List.Perm.append_left _ (List.Perm.append_left _ ?_)
    exact List.perm_append_comm
  · intro b hb
    rcases List.mem_cons.1 hb with rfl | hb
    · exact h3
    · rw [List.mem_singleton.1 hb]
      have hl : (A ++ x :: B).length = A.length + (1 + B.length) := by simp; omega
      rw [hl] at hlen hown
      exact ⟨hlen, d.len (d.own_rd h3), c1, c3, hown, h1, h4⟩
theorem Sep.back (S : Sep F0 w0 (aOwn d x cs Fx :: aRest d e A B cs v F1 F3 :: L) w) : Sep F0 w0 (aRow d e (A ++ x :: B) v (v.ownBlock.toList ++ (F1 ++ (Fx ++ F3))) :: L) w := by
  refine Sep.joinP [aOwn d x cs Fx, aRest d e A B cs v F1 F3] S _ (Fx ++ (v.ownBlock.toList ++ (F1 ++ F3))) ?_ ?_ ?_
  · show (Fx ++ (v.ownBlock.toList ++ (F1 ++ F3))).Perm (v.ownBlock.toList ++ (F1 ++ (Fx ++ F3)))
    refine List.perm_append_comm.trans ?_
    simp only [List.append_assoc]
    refine List.Perm.append_left _ (List.Perm.append_left _ ?_)
    exact List.perm_append_comm
  · show (Fx ++ (v.ownBlock.toList ++ (F1 ++ F3))).Sublist (Fx ++ ((v.ownBlock.toList ++ (F1 ++ F3)) ++ []))
    rw [List.append_nil]
    exact List.Sublist.refl _
  · intro h
    have h1 := h (aOwn d x cs Fx) (by simp)
    obtain ⟨hlen, hcs, c1, c2, hown, ha, hb⟩ := h (aRest d e A B cs v F1 F3) (by simp)
    have hl : (A ++ x :: B).length = A.length + (1 + B.length) := by simp; omega
    refine ⟨by rw [hl]; exact hlen, c1 ++ (cs ++ c2), F1 ++ (Fx ++ F3), by rw [hl]; exact hown, ha.append ⟨cs, c2, Fx, F3, rfl, rfl, h1, hb⟩, rfl⟩
/-- The lent element's cells stand in the row. -/
theorem Sep.restAt {g n cap k : Nat} (S : Sep F0 w0 L w) (hm : aRest d e A B cs (.slice (some ⟨g, 0, none⟩) n cap) F1 F3 ∈ L) (hk : A.length = k) : CellsAt w ⟨g, k * d.sz, none⟩ cs := by
  obtain ⟨hlen, hcs, c1, c2, hown, ha, hb⟩ := S.ok _ hm
  refine ⟨fun j hj => ?_⟩
  have h1 : c1.length = k * d.sz := by rw [ha.len, hk]
  have := hown.cells (g := g) rfl (k * d.sz + j) cs[j] (by rw [List.getElem?_append_right (by omega), h1, Nat.add_sub_cancel_left, List.getElem?_append_left hj, List.getElem?_eq_getElem hj])
  rw [addr_add] at this
  rw [List.getElem?_eq_getElem hj, ← this]
  congr 1
  have := addr_add_add ⟨g, 0, none⟩ (k * d.sz) j
  rw [addr_add, addr_add] at this
  exact this
end
end Go.Proofs.Ytapdcgjccckjeaa
