/- A field written into an element of a slice of the call's own. -/
import Derived.Test.YtphojlkljlnfjaaDoorSep
namespace Go.Proofs.YtphojlkljlnfjaaDoor
set_option maxRecDepth 100000
set_option linter.unusedVariables false
set_option linter.unusedSimpArgs false
open Go.RowKit
section
variable {P : Program} {ops : Array Oper} {rest : List Oper} {o : Oper} {a : Act} {Q : Exit → Act → World → Prop} {W w0 : World} {F0 : List Nat} {L L' : List Asrt} {K : Act → World → Prop} {α : Type} {d : Ty α}
theorem getElem_mid {A B : List α} {y : α} {k : Nat} (hA : A.length = k) : (A ++ y :: B)[k]'(by simp; omega) = y := by
  subst hA
  simp
theorem set_mid {A B : List α} {y z : α} {k : Nat} (hA : A.length = k) : (A ++ y :: B).set k z = A ++ z :: B := by
  subst hA
  simp
theorem run_sfield (S : Sep F0 w0 L W) (ty : TypeId) (x y : Operand) (ho : o.op = .store ty x y) {g k j q : Nat} (hx : a.eval x = .pointer (some ⟨g, q, none⟩)) (u : Value) (hy : (a.eval y).cells = [u].toArray) (h1 : u.oneCell' = true) (hs : (P.info? ty).map (·.size) = some 1) {e n cap : Nat} {A B : List α} {x0 x1 : α} {F : List Nat}
    (hm : aRow d e (A ++ x0 :: B) (.slice (some ⟨g, 0, none⟩) n cap) F ∈ L) (hA : A.length = k) (hq : q = k * d.sz + j) (hj : j < d.sz) (hset : ∀ (w : World) (cs : List Value) (G : List Nat), d.own w x0 cs G → d.own w x1 (cs.set j u) G)
    (hp : Put L (aRow d e (A ++ x0 :: B) (.slice (some ⟨g, 0, none⟩) n cap) F) (aRow d e (A ++ x1 :: B) (.slice (some ⟨g, 0, none⟩) n cap) F) L') :
    ∃ w1, Sep F0 w0 L' w1 ∧ (execOp a.eval o).run P W = .ok .skip w1 := by
  subst hq
  have hr := S.row hm
  have hk : k < (A ++ x0 :: B).length := by simp; omega
  obtain ⟨ck, Fk, h2, h3, h4, _, _, h5, h6, _, h7⟩ := hr.at_ (S.nodup hm) hk
  rw [getElem_mid hA] at h3
  have hc := h5 j (by omega)
  have hz := h6 (k * d.sz + j)
  have h8 := h7 j u x1 (by rw [getElem_mid hA]; exact fun w hw => hset w _ _ hw) hj
  rw [set_mid hA] at h8
  refine ⟨W.setCell ⟨g, k * d.sz + j, none⟩ u, S.putRow hp h8 ((Chg.refl F W).set (.inl h4) _), ?_⟩
  have ha : (⟨g, k * d.sz + j, none⟩ : Addr).add 0 = ⟨g, k * d.sz + j, none⟩ := rfl
  have hst : (store ⟨g, k * d.sz + j, none⟩ u).run P W = .ok () (W.setCell ⟨g, k * d.sz + j, none⟩ u) := by
    rw [run_store P W _ u _ h1]
    simp [stored, hc, hz]
  cases hq : P.info? ty with
  | none => simp [hq] at hs
  | some info =>
    have hn : info.size = 1 := by simpa [hq] using hs
    unfold execOp
    simp [ho, hx, hy, Instr.storeAt, Instr.sureAddr, storeVar, sizeOf, typeInfo, hq, hn, storeCells, ha, hst]
theorem wpList_sfield (S : Sep F0 w0 L W) (hw : Region.wanted o (yielded ops a.tmps) = true) (ty : TypeId) (x y : Operand) (ho : o.op = .store ty x y) {g k j q : Nat} (hx : a.eval x = .pointer (some ⟨g, q, none⟩)) (u : Value) (hy : (a.eval y).cells = [u].toArray) (h1 : u.oneCell' = true) (hs : (P.info? ty).map (·.size) = some 1) {e n cap : Nat} {A B : List α} {x0 x1 : α} {F : List Nat}
    (hm : aRow d e (A ++ x0 :: B) (.slice (some ⟨g, 0, none⟩) n cap) F ∈ L) (hA : A.length = k) (hq : q = k * d.sz + j) (hj : j < d.sz) (hset : ∀ (w : World) (cs : List Value) (G : List Nat), d.own w x0 cs G → d.own w x1 (cs.set j u) G)
    (hp : Put L (aRow d e (A ++ x0 :: B) (.slice (some ⟨g, 0, none⟩) n cap) F) (aRow d e (A ++ x1 :: B) (.slice (some ⟨g, 0, none⟩) n cap) F) L')
    (h : ∀ w1, Sep F0 w0 L' w1 → wpList P ops Q rest (a.put o.dst undef) w1) : wpList P ops Q (o :: rest) a W := by
  obtain ⟨w1, S1, hr⟩ := run_sfield (P := P) (o := o) (a := a) S ty x y ho hx u hy h1 hs hm hA hq hj hset hp
  exact wpList_of_skip hw hr (h w1 S1)
/-- A new row of equal elements (a make, an empty literal). -/
theorem run_smade (S : Sep F0 w0 L W) (d : Ty α) (e : Nat) (z : α) (cz : List Value) (n : Nat) (hz : ∀ w, d.own w z cz []) (hn : n ≤ 2097152) (cells : Array Value) (hce : madeCells cz.toArray (n * d.sz) = cells) (hr : (execOp a.eval o).run P W = .ok (.value (.slice (some ⟨W.heap.size, 0, none⟩) n n)) (W.alloc (.cells cells e))) :
    ∃ g w1, W.heap.size ≤ g ∧ Sep F0 w0 (aRow d e (List.replicate n z) (.slice (some ⟨g, 0, none⟩) n n) [g] :: L) w1 ∧ (execOp a.eval o).run P W = .ok (.value (.slice (some ⟨g, 0, none⟩) n n)) w1 :=
  ⟨_, _, Nat.le_refl _, S.new (aRow d e (List.replicate n z) _ [W.heap.size]) (hce ▸ orow_made d e W z cz n hz hn) (by simp [aRow]) (fun q hq => by rw [List.mem_singleton.1 hq]; exact Nat.le_refl _) ((Fr.refl W).alloc _), hr⟩
theorem wpList_smade (S : Sep F0 w0 L W) (hw : Region.wanted o (yielded ops a.tmps) = true) (d : Ty α) (e : Nat) (z : α) (cz : List Value) (n : Nat) (hz : ∀ w, d.own w z cz []) (hn : n ≤ 2097152) (cells : Array Value) (hce : madeCells cz.toArray (n * d.sz) = cells) (hr : (execOp a.eval o).run P W = .ok (.value (.slice (some ⟨W.heap.size, 0, none⟩) n n)) (W.alloc (.cells cells e)))
    (h : ∀ g w1, W.heap.size ≤ g → Sep F0 w0 (aRow d e (List.replicate n z) (.slice (some ⟨g, 0, none⟩) n n) [g] :: L) w1 → wpList P ops Q rest (a.put o.dst (.slice (some ⟨g, 0, none⟩) n n)) w1) : wpList P ops Q (o :: rest) a W := by
  obtain ⟨g, w1, hg, S1, hr⟩ := run_smade (P := P) (o := o) (a := a) S d e z cz n hz hn cells hce hr
  exact wpList_of_run hw hr (h g w1 hg S1)
theorem step_smade (S : Sep F0 w0 L W) (hw : Region.wanted o (yielded ops a.tmps) = true) (d : Ty α) (e : Nat) (z : α) (cz : List Value) (n : Nat) (hz : ∀ w, d.own w z cz []) (hn : n ≤ 2097152) (cells : Array Value) (hce : madeCells cz.toArray (n * d.sz) = cells) (hr : (execOp a.eval o).run P W = .ok (.value (.slice (some ⟨W.heap.size, 0, none⟩) n n)) (W.alloc (.cells cells e)))
    (h : ∀ g w1, W.heap.size ≤ g → Sep F0 w0 (aRow d e (List.replicate n z) (.slice (some ⟨g, 0, none⟩) n n) [g] :: L) w1 → K (a.put o.dst (.slice (some ⟨g, 0, none⟩) n n)) w1) : if Region.wanted o (yielded ops a.tmps) = true then Oper.wp P o a W K Q else K (a.put o.dst undef) W := by
  obtain ⟨g, w1, hg, S1, hr⟩ := run_smade (P := P) (o := o) (a := a) S d e z cz n hz hn cells hce hr
  exact step_of_run hw hr (h g w1 hg S1)
/-- A nil slice is owned by whoever holds it. -/
theorem Sep.addNil (S : Sep F0 w0 L W) (d : Ty α) (e : Nat) : Sep F0 w0 (aRow d e [] (.slice none 0 0) [] :: L) W :=
  S.new (aRow d e [] (.slice none 0 0) []) (Ty.orow.nil d e W) (by simp [aRow]) (fun q hq => by cases hq) (Fr.refl W)
/-- An int read out of a slice that reads as a list. -/
theorem wpList_rowint (hw : Region.wanted o (yielded ops a.tmps) = true) (ty : TypeId) (x : Operand) (ho : o.op = .load ty x) {ad : Addr} (hx : a.eval x = .pointer (some ad)) {v : Value} (hc : W.cell? ad = some v) (t : TypeDesc)
    (hu : P.underlying ty = some t) (hd : (match t with | .struct _ | .array _ _ => true | _ => false) = false) (h : wpList P ops Q rest (a.put o.dst v) W) : wpList P ops Q (o :: rest) a W := by
  have hagg : (isAgg ty).run P W = .ok false W := by
    unfold isAgg
    rw [Sem.run_bind, run_underlying hu W]
    cases t <;> simp_all
  refine wpList_of_run hw (v := v) ?_ h
  unfold execOp
  simp [ho, hx, Instr.loadAt, Instr.sureAddr, Sem.run_bind, Sem.run_pure, Result.andThen_ok, loadVar, hagg, run_load, hc]
theorem yields_cell {T : World → Prop} (hw : Region.wanted o (yielded ops a.tmps) = true) (ty : TypeId) (x : Operand) (ho : o.op = .load ty x) {ad : Addr} (hx : a.eval x = .pointer (some ad)) {v : Value} (hc : ∀ w, T w → w.cell? ad = some v) (d : TypeDesc)
    (hu : P.underlying ty = some d) (hd : (match d with | .struct _ | .array _ _ => true | _ => false) = false) : YieldsIf P ops T o v a := yields_of_run hw fun W hT => by
  have hagg : (isAgg ty).run P W = .ok false W := by
    unfold isAgg
    rw [Sem.run_bind, run_underlying hu W]
    cases d <;> simp_all
  have hc := hc W hT
  unfold execOp
  simp [ho, hx, Instr.loadAt, Instr.sureAddr, Sem.run_bind, Sem.run_pure, Result.andThen_ok, loadVar, hagg, run_load, hc]
end
end Go.Proofs.YtphojlkljlnfjaaDoor
