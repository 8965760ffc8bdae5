/- Copies, appends, makes, literals and stores that hand over what is owned: the arms. -/
import Derived.Test.YtapdcgjccckjeaaOwn
namespace Go.Proofs.Ytapdcgjccckjeaa
set_option maxRecDepth 100000
set_option linter.unusedVariables false
set_option linter.unusedSimpArgs false
open Go.RowKit
section
variable {α : Type} {d : Ty α} {ops : Array Oper} {rest : List Oper} {o : Oper} {a : Act} {Q : Exit → Act → World → Prop} {W w0 : World} {F0 : List Nat} {L L1 L' : List Asrt} {K : Act → World → Prop}
/-- Appended: the elements of a slice that reads as a list (of a kind that leads nowhere). -/
theorem run_apR {xs ys us : List α} {v z : Value} {F : List Nat} {e t m b n c : Nat} {s x : Operand} {A : Option Addr} (hp : d.plain) (S : Sep F0 w0 L W) (p : Del L (aRow d e xs v F) L') (hrow : d.row W (.slice A n c) ys) (hpos : 0 < n ∨ ∃ g k cap, v = .slice (some ⟨g, 0, none⟩) k cap) (hle : xs.length + n ≤ 2097152) (hop : o.op = Op.call { callee := Callee.builtin Builtin.append, args := #[s, x], argTypes := #[t, t] }) (ht : TySlc t e) (hi : TyElem e z m b) (hzs : z.cells.size = m) (hm : m = d.sz) (hm0 : 0 < m) (hb : b ≤ 1000) (hs : a.eval s = v) (hx : a.eval x = .slice A n c) (hn : ys.length = n) (hus : xs ++ ys = us) : ∃ A' c' F' w1, Sep F0 w0 (aRow d e us (.slice A' us.length c') F' :: L') w1 ∧ (execOp a.eval o).run Try.prog W = .ok (.value (.slice A' us.length c')) w1 := by
  obtain ⟨news, hnl, hc, he⟩ := row_news hp hrow
  subst hn
  have hq := run_appg (d := d) (o := o) (a := a) [] (xs := xs) (ys := ys) (G2 := []) (S.pull p) s x t hop ht hi hzs hm hm0 hb hs A c _ hx rfl news hnl hrow.nilc hc (he W).one (fun w' _ => he w') (List.Sublist.refl _) hpos (fun h0 => row_some hrow h0) hle
  obtain ⟨v', F', w1, S1, hr⟩ := hq
  obtain ⟨A', c', rfl⟩ := (Ty.orow.row (S1.row (d := d) (xs := xs ++ ys) List.mem_cons_self)).val
  rw [hus] at S1 hr
  exact ⟨A', c', F', w1, S1, hr⟩
theorem aApR {xs ys us : List α} {v z : Value} {F : List Nat} {e t m b n c : Nat} {s x : Operand} {A : Option Addr} (hp : d.plain) (S : Sep F0 w0 L W) (p : Del L (aRow d e xs v F) L') (hrow : d.row W (.slice A n c) ys) (hpos : 0 < n ∨ ∃ g k cap, v = .slice (some ⟨g, 0, none⟩) k cap) (hle : xs.length + n ≤ 2097152) (h : ∀ (A' : Option Addr) (c' : Nat) (F' : List Nat) w1, Sep F0 w0 (aRow d e us (.slice A' us.length c') F' :: L') w1 → wpList Try.prog ops Q rest (a.put o.dst (.slice A' us.length c')) w1) (hw : Region.wanted o (yielded ops a.tmps) = true := by exact rfl) (hop : o.op = Op.call { callee := Callee.builtin Builtin.append, args := #[s, x], argTypes := #[t, t] } := by exact rfl) (ht : TySlc t e := by exact inferInstance) (hi : TyElem e z m b := by exact inferInstance) (hzs : z.cells.size = m := by exact rfl) (hm : m = d.sz := by exact rfl) (hm0 : 0 < m := by decide) (hb : b ≤ 1000 := by decide) (hs : a.eval s = v := by exact rfl) (hx : a.eval x = .slice A n c := by exact rfl) (hn : ys.length = n := by first | exact rfl | assumption) (hus : xs ++ ys = us := by first | exact List.nil_append _ | exact rfl) : wpList Try.prog ops Q (o :: rest) a W := by
  obtain ⟨A', c', F', w1, S1, hr⟩ := run_apR (o := o) (a := a) hp S p hrow hpos hle hop ht hi hzs hm hm0 hb hs hx hn hus
  exact wpList_of_run hw hr (h A' c' F' w1 S1)
theorem rgApR {xs ys us : List α} {v z : Value} {F : List Nat} {e t m b n c : Nat} {s x : Operand} {A : Option Addr} (hp : d.plain) (S : Sep F0 w0 L W) (p : Del L (aRow d e xs v F) L') (hrow : d.row W (.slice A n c) ys) (hpos : 0 < n ∨ ∃ g k cap, v = .slice (some ⟨g, 0, none⟩) k cap) (hle : xs.length + n ≤ 2097152) (h : ∀ (A' : Option Addr) (c' : Nat) (F' : List Nat) w1, Sep F0 w0 (aRow d e us (.slice A' us.length c') F' :: L') w1 → K (a.put o.dst (.slice A' us.length c')) w1) (hw : Region.wanted o (yielded ops a.tmps) = true := by exact rfl) (hop : o.op = Op.call { callee := Callee.builtin Builtin.append, args := #[s, x], argTypes := #[t, t] } := by exact rfl) (ht : TySlc t e := by exact inferInstance) (hi : TyElem e z m b := by exact inferInstance) (hzs : z.cells.size = m := by exact rfl) (hm : m = d.sz := by exact rfl) (hm0 : 0 < m := by decide) (hb : b ≤ 1000 := by decide) (hs : a.eval s = v := by exact rfl) (hx : a.eval x = .slice A n c := by exact rfl) (hn : ys.length = n := by first | exact rfl | assumption) (hus : xs ++ ys = us := by first | exact List.nil_append _ | exact rfl) : if Region.wanted o (yielded ops a.tmps) = true then Oper.wp Try.prog o a W K Q else K (a.put o.dst undef) W := by
  obtain ⟨A', c', F', w1, S1, hr⟩ := run_apR (o := o) (a := a) hp S p hrow hpos hle hop ht hi hzs hm hm0 hb hs hx hn hus
  exact step_of_run hw hr (h A' c' F' w1 S1)
/-- Appended: the elements of an own slice, which is given up. -/
theorem run_apO {xs ys us : List α} {v z : Value} {F G : List Nat} {e t m b n c : Nat} {s x : Operand} {A : Option Addr} (S : Sep F0 w0 L W) (p : Del L (aRow d e xs v F) L1) (q : Del L1 (aRow d e ys (.slice A n c) G) L') (hpos : 0 < n ∨ ∃ g k cap, v = .slice (some ⟨g, 0, none⟩) k cap) (hle : xs.length + n ≤ 2097152) (hop : o.op = Op.call { callee := Callee.builtin Builtin.append, args := #[s, x], argTypes := #[t, t] }) (ht : TySlc t e) (hi : TyElem e z m b) (hzs : z.cells.size = m) (hm : m = d.sz) (hm0 : 0 < m) (hb : b ≤ 1000) (hs : a.eval s = v) (hx : a.eval x = .slice A n c) (hn : ys.length = n) (hus : xs ++ ys = us) : ∃ A' c' F' w1, Sep F0 w0 (aRow d e us (.slice A' us.length c') F' :: L') w1 ∧ (execOp a.eval o).run Try.prog W = .ok (.value (.slice A' us.length c')) w1 := by
  have S1 := S.pull p
  have S2 : Sep F0 w0 (aRow d e xs v F :: (aRow d e ys (.slice A n c) G :: L')) W := (S1.pull (.tail _ q)).pull (.tail _ (.head _ _))
  have ho := S2.ok (aRow d e ys (.slice A n c) G) (by simp)
  have hrow : d.row W (.slice A n c) ys := Ty.orow.row ho
  obtain ⟨hl, inner, F3, hown, he, hF⟩ := ho
  subst hn
  have hc : ∀ ad, A = some ad → ∀ j u, inner[j]? = some u → W.cell? (ad.add j) = some u := by
    intro ad hA j u hj
    subst hA
    rcases hown.2 with ⟨h0, _⟩ | ⟨g', cap', cur, h0, _⟩
    · cases h0
    · cases h0
      rw [addr_add]
      have := hown.cells (g := g') rfl j u hj
      rwa [addr_add] at this
  have hq := run_appg (d := d) (o := o) (a := a) [aRow d e ys (.slice A ys.length c) G] (xs := xs) (ys := ys) (G2 := F3) S2 s x t hop ht hi hzs hm hm0 hb hs A c _ hx rfl inner he.len hrow.nilc hc he.one (fun w' hk => he.keep hk) (by show F3.Sublist (G ++ []); rw [hF, List.append_nil]; exact List.sublist_append_right _ _) hpos (fun h0 => row_some hrow h0) hle
  obtain ⟨v', F', w1, S1, hr⟩ := hq
  obtain ⟨A', c', rfl⟩ := (Ty.orow.row (S1.row (d := d) (xs := xs ++ ys) List.mem_cons_self)).val
  rw [hus] at S1 hr
  exact ⟨A', c', F', w1, S1, hr⟩
theorem aApO {xs ys us : List α} {v z : Value} {F G : List Nat} {e t m b n c : Nat} {s x : Operand} {A : Option Addr} (S : Sep F0 w0 L W) (p : Del L (aRow d e xs v F) L1) (q : Del L1 (aRow d e ys (.slice A n c) G) L') (hpos : 0 < n ∨ ∃ g k cap, v = .slice (some ⟨g, 0, none⟩) k cap) (hle : xs.length + n ≤ 2097152) (h : ∀ (A' : Option Addr) (c' : Nat) (F' : List Nat) w1, Sep F0 w0 (aRow d e us (.slice A' us.length c') F' :: L') w1 → wpList Try.prog ops Q rest (a.put o.dst (.slice A' us.length c')) w1) (hw : Region.wanted o (yielded ops a.tmps) = true := by exact rfl) (hop : o.op = Op.call { callee := Callee.builtin Builtin.append, args := #[s, x], argTypes := #[t, t] } := by exact rfl) (ht : TySlc t e := by exact inferInstance) (hi : TyElem e z m b := by exact inferInstance) (hzs : z.cells.size = m := by exact rfl) (hm : m = d.sz := by exact rfl) (hm0 : 0 < m := by decide) (hb : b ≤ 1000 := by decide) (hs : a.eval s = v := by exact rfl) (hx : a.eval x = .slice A n c := by exact rfl) (hn : ys.length = n := by first | exact rfl | assumption) (hus : xs ++ ys = us := by first | exact List.nil_append _ | exact rfl) : wpList Try.prog ops Q (o :: rest) a W := by
  obtain ⟨A', c', F', w1, S1, hr⟩ := run_apO (o := o) (a := a) S p q hpos hle hop ht hi hzs hm hm0 hb hs hx hn hus
  exact wpList_of_run hw hr (h A' c' F' w1 S1)
theorem rgApO {xs ys us : List α} {v z : Value} {F G : List Nat} {e t m b n c : Nat} {s x : Operand} {A : Option Addr} (S : Sep F0 w0 L W) (p : Del L (aRow d e xs v F) L1) (q : Del L1 (aRow d e ys (.slice A n c) G) L') (hpos : 0 < n ∨ ∃ g k cap, v = .slice (some ⟨g, 0, none⟩) k cap) (hle : xs.length + n ≤ 2097152) (h : ∀ (A' : Option Addr) (c' : Nat) (F' : List Nat) w1, Sep F0 w0 (aRow d e us (.slice A' us.length c') F' :: L') w1 → K (a.put o.dst (.slice A' us.length c')) w1) (hw : Region.wanted o (yielded ops a.tmps) = true := by exact rfl) (hop : o.op = Op.call { callee := Callee.builtin Builtin.append, args := #[s, x], argTypes := #[t, t] } := by exact rfl) (ht : TySlc t e := by exact inferInstance) (hi : TyElem e z m b := by exact inferInstance) (hzs : z.cells.size = m := by exact rfl) (hm : m = d.sz := by exact rfl) (hm0 : 0 < m := by decide) (hb : b ≤ 1000 := by decide) (hs : a.eval s = v := by exact rfl) (hx : a.eval x = .slice A n c := by exact rfl) (hn : ys.length = n := by first | exact rfl | assumption) (hus : xs ++ ys = us := by first | exact List.nil_append _ | exact rfl) : if Region.wanted o (yielded ops a.tmps) = true then Oper.wp Try.prog o a W K Q else K (a.put o.dst undef) W := by
  obtain ⟨A', c', F', w1, S1, hr⟩ := run_apO (o := o) (a := a) S p q hpos hle hop ht hi hzs hm hm0 hb hs hx hn hus
  exact step_of_run hw hr (h A' c' F' w1 S1)
/-- A new row of zeros. -/
theorem run_mk {cz : List Value} {zv : Value} {e t m b n : Nat} {x y : Operand} (z : α) (S : Sep F0 w0 L W) (hz : ∀ w, d.own w z cz []) (hn : n ≤ 2097152) (ho : o.op = .makeSlice t x y) (ht : TySlc t e) (hi : TyElem e zv m b) (hm : m = d.sz) (hb : b ≤ 1000) (hcz : zv.cells = cz.toArray) (hx : a.eval x = .int .i64 n) (hy : a.eval y = .int .i64 n) : ∃ g w1, W.heap.size ≤ g ∧ Sep F0 w0 (aRow d e (List.replicate n z) (.slice (some ⟨g, 0, none⟩) n n) [g] :: L) w1 ∧ (execOp a.eval o).run Try.prog W = .ok (.value (.slice (some ⟨g, 0, none⟩) n n)) w1 := by
  obtain ⟨i, hi0, hzz⟩ := Option.map_eq_some_iff.1 hi.h
  simp only [Prod.mk.injEq] at hzz
  obtain ⟨hz0, hz1, hz2⟩ := hzz
  have hbn : (b : Int) * (n : Int) ≤ 281474976710656 := by
    have : b * n ≤ 1000 * 2097152 := Nat.mul_le_mul hb hn
    have h3 : ((b * n : Nat) : Int) ≤ 2097152000 := by omega
    rw [Int.natCast_mul] at h3
    omega
  have hr := run_make (P := Try.prog) W t e i _ ht.u hi0 hz0 .i64 .i64 n n (by omega) (Int.le_refl _) (by rw [hz2]; exact hbn) (by omega)
  simp only [Int.toNat_natCast, hz1, hcz, hm] at hr
  exact run_smade S d e z cz n hz hn _ rfl (by unfold execOp; simp only [ho, hx, hy, hr, Sem.run_bind, Result.andThen_ok, Sem.run_pure])
theorem aMk {cz : List Value} {zv : Value} {e t m b n : Nat} {x y : Operand} (z : α) (S : Sep F0 w0 L W) (hz : ∀ w, d.own w z cz []) (hn : n ≤ 2097152) (h : ∀ (g : Nat) w1, W.heap.size ≤ g → Sep F0 w0 (aRow d e (List.replicate n z) (.slice (some ⟨g, 0, none⟩) n n) [g] :: L) w1 → wpList Try.prog ops Q rest (a.put o.dst (.slice (some ⟨g, 0, none⟩) n n)) w1) (hw : Region.wanted o (yielded ops a.tmps) = true := by exact rfl) (ho : o.op = .makeSlice t x y := by exact rfl) (ht : TySlc t e := by exact inferInstance) (hi : TyElem e zv m b := by exact inferInstance) (hm : m = d.sz := by exact rfl) (hb : b ≤ 1000 := by decide) (hcz : zv.cells = cz.toArray := by exact rfl) (hx : a.eval x = .int .i64 n := by exact rfl) (hy : a.eval y = .int .i64 n := by exact rfl) : wpList Try.prog ops Q (o :: rest) a W := by
  obtain ⟨g, w1, hg, S1, hr⟩ := run_mk (o := o) (a := a) z S hz hn ho ht hi hm hb hcz hx hy
  exact wpList_of_run hw hr (h g w1 hg S1)
theorem rgMk {cz : List Value} {zv : Value} {e t m b n : Nat} {x y : Operand} (z : α) (S : Sep F0 w0 L W) (hz : ∀ w, d.own w z cz []) (hn : n ≤ 2097152) (h : ∀ (g : Nat) w1, W.heap.size ≤ g → Sep F0 w0 (aRow d e (List.replicate n z) (.slice (some ⟨g, 0, none⟩) n n) [g] :: L) w1 → K (a.put o.dst (.slice (some ⟨g, 0, none⟩) n n)) w1) (hw : Region.wanted o (yielded ops a.tmps) = true := by exact rfl) (ho : o.op = .makeSlice t x y := by exact rfl) (ht : TySlc t e := by exact inferInstance) (hi : TyElem e zv m b := by exact inferInstance) (hm : m = d.sz := by exact rfl) (hb : b ≤ 1000 := by decide) (hcz : zv.cells = cz.toArray := by exact rfl) (hx : a.eval x = .int .i64 n := by exact rfl) (hy : a.eval y = .int .i64 n := by exact rfl) : if Region.wanted o (yielded ops a.tmps) = true then Oper.wp Try.prog o a W K Q else K (a.put o.dst undef) W := by
  obtain ⟨g, w1, hg, S1, hr⟩ := run_mk (o := o) (a := a) z S hz hn ho ht hi hm hb hcz hx hy
  exact step_of_run hw hr (h g w1 hg S1)
theorem orow_empty (d : Ty α) (e : Nat) (w : World) : d.orow e (w.alloc (.cells #[] e)) (.slice (some ⟨w.heap.size, 0, none⟩) 0 0) [] [w.heap.size] := by
  have h := World.ownsRow_lit (base := 0) (e := e) (size := d.sz) w #[] 0 (Nat.zero_le _) (by simp [maxLen]) (by simp)
  exact ⟨by simp, [], [], h, ⟨rfl, rfl⟩, rfl⟩
/-- An empty literal. -/
theorem run_lit0 {e : Nat} (d : Ty α) (S : Sep F0 w0 L W) (hr : (execOp a.eval o).run Try.prog W = .ok (.value (.slice (some ⟨W.heap.size, 0, none⟩) 0 0)) (W.alloc (.cells #[] e))) : ∃ g w1, W.heap.size ≤ g ∧ Sep F0 w0 (aRow d e [] (.slice (some ⟨g, 0, none⟩) 0 0) [g] :: L) w1 ∧ (execOp a.eval o).run Try.prog W = .ok (.value (.slice (some ⟨g, 0, none⟩) 0 0)) w1 := by
  exact ⟨_, _, Nat.le_refl _, S.new (aRow d e [] _ [W.heap.size]) (orow_empty d e W) (by simp [aRow]) (fun q hq => by rw [List.mem_singleton.1 hq]; exact Nat.le_refl _) ((Fr.refl W).alloc _), hr⟩
theorem aLit0 {e : Nat} (d : Ty α) (S : Sep F0 w0 L W) (h : ∀ (g : Nat) w1, W.heap.size ≤ g → Sep F0 w0 (aRow d e [] (.slice (some ⟨g, 0, none⟩) 0 0) [g] :: L) w1 → wpList Try.prog ops Q rest (a.put o.dst (.slice (some ⟨g, 0, none⟩) 0 0)) w1) (hw : Region.wanted o (yielded ops a.tmps) = true := by exact rfl) (hr : (execOp a.eval o).run Try.prog W = .ok (.value (.slice (some ⟨W.heap.size, 0, none⟩) 0 0)) (W.alloc (.cells #[] e)) := by first | (go_simp; done) | (go_simp; rfl)) : wpList Try.prog ops Q (o :: rest) a W := by
  obtain ⟨g, w1, hg, S1, hr⟩ := run_lit0 (o := o) (a := a) d S hr
  exact wpList_of_run hw hr (h g w1 hg S1)
theorem rgLit0 {e : Nat} (d : Ty α) (S : Sep F0 w0 L W) (h : ∀ (g : Nat) w1, W.heap.size ≤ g → Sep F0 w0 (aRow d e [] (.slice (some ⟨g, 0, none⟩) 0 0) [g] :: L) w1 → K (a.put o.dst (.slice (some ⟨g, 0, none⟩) 0 0)) w1) (hw : Region.wanted o (yielded ops a.tmps) = true := by exact rfl) (hr : (execOp a.eval o).run Try.prog W = .ok (.value (.slice (some ⟨W.heap.size, 0, none⟩) 0 0)) (W.alloc (.cells #[] e)) := by first | (go_simp; done) | (go_simp; rfl)) : if Region.wanted o (yielded ops a.tmps) = true then Oper.wp Try.prog o a W K Q else K (a.put o.dst undef) W := by
  obtain ⟨g, w1, hg, S1, hr⟩ := run_lit0 (o := o) (a := a) d S hr
  exact step_of_run hw hr (h g w1 hg S1)
/-- A literal of one own struct. -/
theorem run_lit1 {x : α} {cs : List Value} {Fx : List Nat} (e : Nat) (S : Sep F0 w0 L W) (p : Del L (aOwn d x cs Fx) L') (hr : (execOp a.eval o).run Try.prog W = .ok (.value (.slice (some ⟨W.heap.size, 0, none⟩) 1 1)) (W.alloc (.cells cs.toArray e))) : ∃ g w1, W.heap.size ≤ g ∧ Sep F0 w0 (aRow d e [x] (.slice (some ⟨g, 0, none⟩) 1 1) ([g] ++ Fx) :: L') w1 ∧ (execOp a.eval o).run Try.prog W = .ok (.value (.slice (some ⟨g, 0, none⟩) 1 1)) w1 := by
  have S1 := (S.pull p).fr ((Fr.refl W).alloc (.cells cs.toArray e))
  have hx := S1.ok (aOwn d x cs Fx) (by simp)
  have hx0 := (S.pull p).ok (aOwn d x cs Fx) (by simp)
  have hl : cs.length = d.sz := d.len (d.own_rd hx0)
  refine ⟨W.heap.size, _, Nat.le_refl _, Sep.call [aOwn d x cs Fx] (S.pull p) (Sep.one1 (a := aRow d e [x] _ ([W.heap.size] ++ Fx)) ((Chg.refl _ W).alloc _) ?_ ?_ ?_), hr⟩
  · have h := World.ownsRow_lit (base := 0) (e := e) (size := d.sz) W cs.toArray 1 (Nat.zero_le _) (by simp [maxLen]) (by simpa using hl)
    exact ⟨by simp, cs, Fx, by simpa using h, Ty.elems.single hx, rfl⟩
  · intro g hg
    rcases List.mem_append.1 hg with hg | hg
    · right; rw [List.mem_singleton.1 hg]; exact Nat.le_refl _
    · left; simp [fps, aOwn, hg]
  · refine List.nodup_cons.2 ⟨fun hm => ?_, (S.pull p).nodup (a := aOwn d x cs Fx) (by simp)⟩
    have := d.own_lt hx0 _ hm
    omega
theorem aLit1 {x : α} {cs : List Value} {Fx : List Nat} (e : Nat) (S : Sep F0 w0 L W) (p : Del L (aOwn d x cs Fx) L') (h : ∀ (g : Nat) w1, W.heap.size ≤ g → Sep F0 w0 (aRow d e [x] (.slice (some ⟨g, 0, none⟩) 1 1) ([g] ++ Fx) :: L') w1 → wpList Try.prog ops Q rest (a.put o.dst (.slice (some ⟨g, 0, none⟩) 1 1)) w1) (hw : Region.wanted o (yielded ops a.tmps) = true := by exact rfl) (hr : (execOp a.eval o).run Try.prog W = .ok (.value (.slice (some ⟨W.heap.size, 0, none⟩) 1 1)) (W.alloc (.cells cs.toArray e)) := by first | (go_simp; done) | (go_simp; rfl)) : wpList Try.prog ops Q (o :: rest) a W := by
  obtain ⟨g, w1, hg, S1, hr⟩ := run_lit1 (o := o) (a := a) e S p hr
  exact wpList_of_run hw hr (h g w1 hg S1)
theorem rgLit1 {x : α} {cs : List Value} {Fx : List Nat} (e : Nat) (S : Sep F0 w0 L W) (p : Del L (aOwn d x cs Fx) L') (h : ∀ (g : Nat) w1, W.heap.size ≤ g → Sep F0 w0 (aRow d e [x] (.slice (some ⟨g, 0, none⟩) 1 1) ([g] ++ Fx) :: L') w1 → K (a.put o.dst (.slice (some ⟨g, 0, none⟩) 1 1)) w1) (hw : Region.wanted o (yielded ops a.tmps) = true := by exact rfl) (hr : (execOp a.eval o).run Try.prog W = .ok (.value (.slice (some ⟨W.heap.size, 0, none⟩) 1 1)) (W.alloc (.cells cs.toArray e)) := by first | (go_simp; done) | (go_simp; rfl)) : if Region.wanted o (yielded ops a.tmps) = true then Oper.wp Try.prog o a W K Q else K (a.put o.dst undef) W := by
  obtain ⟨g, w1, hg, S1, hr⟩ := run_lit1 (o := o) (a := a) e S p hr
  exact step_of_run hw hr (h g w1 hg S1)
/-- A literal of two own structs. -/
theorem run_lit2 {x y : α} {cs ds : List Value} {Fx Fy : List Nat} (e : Nat) (S : Sep F0 w0 L W) (p : Del L (aOwn d x cs Fx) L1) (q : Del L1 (aOwn d y ds Fy) L') (hr : (execOp a.eval o).run Try.prog W = .ok (.value (.slice (some ⟨W.heap.size, 0, none⟩) 2 2)) (W.alloc (.cells (cs ++ ds).toArray e))) : ∃ g w1, W.heap.size ≤ g ∧ Sep F0 w0 (aRow d e [x, y] (.slice (some ⟨g, 0, none⟩) 2 2) ([g] ++ (Fx ++ Fy)) :: L') w1 ∧ (execOp a.eval o).run Try.prog W = .ok (.value (.slice (some ⟨g, 0, none⟩) 2 2)) w1 := by
  have S2 : Sep F0 w0 ([aOwn d x cs Fx, aOwn d y ds Fy] ++ L') W := ((S.pull p).pull (.tail _ q)).pull (.tail _ (.head _ _))
  have S1 := S2.fr ((Fr.refl W).alloc (.cells (cs ++ ds).toArray e))
  have hx := S1.ok (aOwn d x cs Fx) (by simp)
  have hx0 := S2.ok (aOwn d x cs Fx) (by simp)
  have hy := S1.ok (aOwn d y ds Fy) (by simp)
  have hy0 := S2.ok (aOwn d y ds Fy) (by simp)
  have hl : cs.length = d.sz := d.len (d.own_rd hx0)
  have hl2 : ds.length = d.sz := d.len (d.own_rd hy0)
  have hnd : (Fx ++ Fy).Nodup := by
    have := S2.nd
    rw [show fps ([aOwn d x cs Fx, aOwn d y ds Fy] ++ L') = Fx ++ (Fy ++ fps L') from rfl, ← List.append_assoc] at this
    exact (List.nodup_append.1 this).1
  refine ⟨W.heap.size, _, Nat.le_refl _, Sep.call [aOwn d x cs Fx, aOwn d y ds Fy] S2 (Sep.one1 (a := aRow d e [x, y] _ ([W.heap.size] ++ (Fx ++ Fy))) ((Chg.refl _ W).alloc _) ?_ ?_ ?_), hr⟩
  · have h := World.ownsRow_lit (base := 0) (e := e) (size := d.sz) W (cs ++ ds).toArray 2 (Nat.zero_le _) (by simp [maxLen]) (by simp [hl, hl2]; omega)
    exact ⟨by simp, cs ++ ds, Fx ++ Fy, by simpa using h, Ty.elems.append (xs := [x]) (ys := [y]) (Ty.elems.single hx) (Ty.elems.single hy), rfl⟩
  · intro g hg
    rcases List.mem_append.1 hg with hg | hg
    · right; rw [List.mem_singleton.1 hg]; exact Nat.le_refl _
    · left
      show g ∈ Fx ++ (Fy ++ [])
      simpa using hg
  · refine List.nodup_cons.2 ⟨fun hm0 => ?_, hnd⟩
    have hm1 : W.heap.size ∈ Fx ++ Fy := hm0
    rcases List.mem_append.1 hm1 with hm | hm
    · have := d.own_lt hx0 _ hm
      omega
    · have := d.own_lt hy0 _ hm
      omega
theorem aLit2 {x y : α} {cs ds : List Value} {Fx Fy : List Nat} (e : Nat) (S : Sep F0 w0 L W) (p : Del L (aOwn d x cs Fx) L1) (q : Del L1 (aOwn d y ds Fy) L') (h : ∀ (g : Nat) w1, W.heap.size ≤ g → Sep F0 w0 (aRow d e [x, y] (.slice (some ⟨g, 0, none⟩) 2 2) ([g] ++ (Fx ++ Fy)) :: L') w1 → wpList Try.prog ops Q rest (a.put o.dst (.slice (some ⟨g, 0, none⟩) 2 2)) w1) (hw : Region.wanted o (yielded ops a.tmps) = true := by exact rfl) (hr : (execOp a.eval o).run Try.prog W = .ok (.value (.slice (some ⟨W.heap.size, 0, none⟩) 2 2)) (W.alloc (.cells (cs ++ ds).toArray e)) := by first | (go_simp; done) | (go_simp; rfl)) : wpList Try.prog ops Q (o :: rest) a W := by
  obtain ⟨g, w1, hg, S1, hr⟩ := run_lit2 (o := o) (a := a) e S p q hr
  exact wpList_of_run hw hr (h g w1 hg S1)
theorem rgLit2 {x y : α} {cs ds : List Value} {Fx Fy : List Nat} (e : Nat) (S : Sep F0 w0 L W) (p : Del L (aOwn d x cs Fx) L1) (q : Del L1 (aOwn d y ds Fy) L') (h : ∀ (g : Nat) w1, W.heap.size ≤ g → Sep F0 w0 (aRow d e [x, y] (.slice (some ⟨g, 0, none⟩) 2 2) ([g] ++ (Fx ++ Fy)) :: L') w1 → K (a.put o.dst (.slice (some ⟨g, 0, none⟩) 2 2)) w1) (hw : Region.wanted o (yielded ops a.tmps) = true := by exact rfl) (hr : (execOp a.eval o).run Try.prog W = .ok (.value (.slice (some ⟨W.heap.size, 0, none⟩) 2 2)) (W.alloc (.cells (cs ++ ds).toArray e)) := by first | (go_simp; done) | (go_simp; rfl)) : if Region.wanted o (yielded ops a.tmps) = true then Oper.wp Try.prog o a W K Q else K (a.put o.dst undef) W := by
  obtain ⟨g, w1, hg, S1, hr⟩ := run_lit2 (o := o) (a := a) e S p q hr
  exact step_of_run hw hr (h g w1 hg S1)
/-- A literal of elements that lead nowhere. -/
theorem run_litP  (xs : List α) (e : Nat) (cs : List Value) (S : Sep F0 w0 L W) (hel : ∀ w, d.elems w xs cs []) (n : Nat) (hn : xs.length = n) (hn2 : n ≤ 2097152) (hr : (execOp a.eval o).run Try.prog W = .ok (.value (.slice (some ⟨W.heap.size, 0, none⟩) n n)) (W.alloc (.cells cs.toArray e))) : ∃ g w1, W.heap.size ≤ g ∧ Sep F0 w0 (aRow d e xs (.slice (some ⟨g, 0, none⟩) n n) [g] :: L) w1 ∧ (execOp a.eval o).run Try.prog W = .ok (.value (.slice (some ⟨g, 0, none⟩) n n)) w1 := by
  subst hn
  refine ⟨W.heap.size, _, Nat.le_refl _, S.new (aRow d e xs _ [W.heap.size]) ?_ (by simp [aRow]) (fun q hq => by rw [List.mem_singleton.1 hq]; exact Nat.le_refl _) ((Fr.refl W).alloc _), hr⟩
  have h := World.ownsRow_lit (base := 0) (e := e) (size := d.sz) W cs.toArray xs.length (Nat.zero_le _) (by simp only [maxLen]; omega) (by simpa using (hel W).len)
  exact ⟨hn2, cs, [], by simpa using h, hel _, rfl⟩
theorem aLitP  (xs : List α) (e : Nat) (cs : List Value) (S : Sep F0 w0 L W) (hel : ∀ w, d.elems w xs cs []) (n : Nat) (hn : xs.length = n) (hn2 : n ≤ 2097152) (h : ∀ (g : Nat) w1, W.heap.size ≤ g → Sep F0 w0 (aRow d e xs (.slice (some ⟨g, 0, none⟩) n n) [g] :: L) w1 → wpList Try.prog ops Q rest (a.put o.dst (.slice (some ⟨g, 0, none⟩) n n)) w1) (hw : Region.wanted o (yielded ops a.tmps) = true := by exact rfl) (hr : (execOp a.eval o).run Try.prog W = .ok (.value (.slice (some ⟨W.heap.size, 0, none⟩) n n)) (W.alloc (.cells cs.toArray e)) := by first | (go_simp; done) | (go_simp; rfl)) : wpList Try.prog ops Q (o :: rest) a W := by
  obtain ⟨g, w1, hg, S1, hr⟩ := run_litP (o := o) (a := a) xs e cs S hel n hn hn2 hr
  exact wpList_of_run hw hr (h g w1 hg S1)
theorem rgLitP  (xs : List α) (e : Nat) (cs : List Value) (S : Sep F0 w0 L W) (hel : ∀ w, d.elems w xs cs []) (n : Nat) (hn : xs.length = n) (hn2 : n ≤ 2097152) (h : ∀ (g : Nat) w1, W.heap.size ≤ g → Sep F0 w0 (aRow d e xs (.slice (some ⟨g, 0, none⟩) n n) [g] :: L) w1 → K (a.put o.dst (.slice (some ⟨g, 0, none⟩) n n)) w1) (hw : Region.wanted o (yielded ops a.tmps) = true := by exact rfl) (hr : (execOp a.eval o).run Try.prog W = .ok (.value (.slice (some ⟨W.heap.size, 0, none⟩) n n)) (W.alloc (.cells cs.toArray e)) := by first | (go_simp; done) | (go_simp; rfl)) : if Region.wanted o (yielded ops a.tmps) = true then Oper.wp Try.prog o a W K Q else K (a.put o.dst undef) W := by
  obtain ⟨g, w1, hg, S1, hr⟩ := run_litP (o := o) (a := a) xs e cs S hel n hn hn2 hr
  exact step_of_run hw hr (h g w1 hg S1)
theorem run_copy_any (w : World) (dT sT ty elem s : TypeId) (g n dCap : Nat) (a : Addr) (sCap : Nat) (cur : Array Value) (t : TypeId) (cs : List Value) (hu : Try.prog.underlying dT = some (.slice elem)) (hs : (Try.prog.info? elem).map (·.size) = some s)
    (hg : w.heap[g]? = some (.cells cur t (0, 0))) (hn : cs.length = n * s) (hsrc : ∀ j v, cs[j]? = some v → w.cell? (a.add j) = some v) (hfit : cs.length ≤ cur.size) (h1 : ∀ v ∈ cs, v.oneCell' = true) :
    (Builtin.copy_ #[dT, sT] ty #[.slice (some ⟨g, 0, none⟩) n dCap, .slice (some a) n sCap]).run Try.prog w = .ok (goInt n) (w.setRow g (cs ++ cur.toList.drop cs.length).toArray) := by
  have hl := run_loadCells_list (P := Try.prog) w a cs hsrc
  have hst := run_storeCells_at Try.prog g 0 t cs 0 cur w hg (by simpa using hfit) h1
  cases hq : Try.prog.info? elem with
  | none => simp [hq] at hs
  | some i =>
    have hi : i.size = s := by simpa [hq] using hs
    have hm : Nat.min n n = n := Nat.min_self n
    simp [Builtin.copy_, run_underlying hu, Builtin.lenOf, Builtin.firstCells, sizeOf, typeInfo, hq, hi, hm, ← hn, hl, hst]
/-- builtin copy of a slice that reads as a list into an own row of that length. -/
theorem run_cp {zs xs : List α} {F : List Nat} {e t m b n c c2 g : Nat} {zv : Value} {y x : Operand} {A : Option Addr} (hp : d.plain) (S : Sep F0 w0 L W) (p : Del L (aRow d e zs (.slice (some ⟨g, 0, none⟩) n c) F) L') (hrow : d.row W (.slice A n c2) xs) (hz : zs.length = n) (hop : o.op = Op.call { callee := Callee.builtin Builtin.copy, args := #[y, x], argTypes := #[t, t] }) (ht : TySlc t e) (hi : TyElem e zv m b) (hm : m = d.sz) (hy : a.eval y = .slice (some ⟨g, 0, none⟩) n c) (hx : a.eval x = .slice A n c2) (hn : xs.length = n) : ∃  w1, Sep F0 w0 (aRow d e xs (.slice (some ⟨g, 0, none⟩) n c) [g] :: L') w1 ∧ (execOp a.eval o).run Try.prog W = .ok (.value (goInt n)) w1 := by
  subst hm
  subst hn
  have S1 := S.pull p
  have ho := S1.ok _ List.mem_cons_self
  obtain ⟨news, hnl, hc, he⟩ := row_news hp hrow
  obtain ⟨hl, inner, F2, hown, he0, hF⟩ := ho
  obtain ⟨i, hi0, hzz⟩ := Option.map_eq_some_iff.1 hi.h
  simp only [Prod.mk.injEq] at hzz
  obtain ⟨hz0, hz1, hz2⟩ := hzz
  have hsz : (Try.prog.info? e).map (·.size) = some d.sz := by rw [hi0]; simp [hz1]
  have hgF : g ∈ F := by rw [hF]; simp [Value.ownBlock]
  rcases hown.2 with ⟨hv, _⟩ | ⟨g', cap, cur, hv, _, hb, hcap, hmax, hcur, htake⟩
  · cases hv
  simp only [Value.slice.injEq, Option.some.injEq, Addr.mk.injEq] at hv
  obtain ⟨⟨rfl, _⟩, hnl2, rfl⟩ := hv
  have hlen : news.length ≤ cur.size := by rw [hnl, hcur]; exact Nat.mul_le_mul_right _ (by omega)
  have hdone : Sep F0 w0 (aRow d e xs (.slice (some ⟨g, 0, none⟩) xs.length c) [g] :: L') (W.setRow g (news ++ cur.toList.drop news.length).toArray) := by
    have hcg : Chg (fps [aRow d e zs (.slice (some ⟨g, 0, none⟩) xs.length c) F]) W (W.setRow g (news ++ cur.toList.drop news.length).toArray) := ⟨rfl, rfl, rfl, by simp [World.setRow], fun k _ hk => setRow_other W g k _ (fun e0 => hk (by simp [fps, aRow, e0, hgF]))⟩
    refine Sep.call [aRow d e zs (.slice (some ⟨g, 0, none⟩) xs.length c) F] S1 (Sep.one1 (a := aRow d e xs _ [g]) hcg ?_ (fun q hq => .inl (by rw [List.mem_singleton.1 hq]; simp [fps, aRow, hgF])) (by simp [aRow]))
    refine ⟨by omega, news, [], ⟨hnl, .inr ⟨g, c, _, rfl, Nat.zero_le _, setRow_heap W g cur _ e (0, 0) hb, by omega, hmax, ?_, ?_⟩⟩, he _, rfl⟩
    · simp
      omega
    · rw [← hnl]
      simp
  cases hA : A with
  | some ad =>
    subst hA
    have hrun := run_copy_any W t t o.type e d.sz g xs.length c ad c2 cur e news ht.u hsz hb hnl (hc ad rfl) hlen (he W).one
    exact ⟨_, hdone, by simp [execOp, hop, resolve, invoke, builtin, hy, hx, hrun, Result.andThen]⟩
  | none =>
    have h0 : xs.length = 0 := by
      rcases Nat.eq_zero_or_pos xs.length with h0 | h0
      · exact h0
      · obtain ⟨ad, h1⟩ := row_some hrow h0
        rw [hA] at h1
        cases h1
    have hc2 := hrow.nilc hA
    have hnews : news = [] := List.eq_nil_of_length_eq_zero (by rw [hnl, h0]; simp)
    subst hA
    have hrun : (Builtin.copy_ #[t, t] o.type #[.slice (some ⟨g, 0, none⟩) xs.length c, .slice none xs.length c2]).run Try.prog W = .ok (goInt xs.length) W := by
      rw [h0]
      simp [Builtin.copy_, run_underlying ht.u, Builtin.lenOf, Builtin.firstCells, sizeOf, typeInfo, hi0, storeCells]
    have hsame : W.setRow g (news ++ cur.toList.drop news.length).toArray = W := by
      rw [hnews]
      simpa using setRow_self W g cur e (0, 0) hb
    rw [hsame] at hdone
    exact ⟨W, hdone, by simp [execOp, hop, resolve, invoke, builtin, hy, hx, hrun, Result.andThen]⟩
theorem aCp {zs xs : List α} {F : List Nat} {e t m b n c c2 g : Nat} {zv : Value} {y x : Operand} {A : Option Addr} (hp : d.plain) (S : Sep F0 w0 L W) (p : Del L (aRow d e zs (.slice (some ⟨g, 0, none⟩) n c) F) L') (hrow : d.row W (.slice A n c2) xs) (hz : zs.length = n) (h : ∀  w1, Sep F0 w0 (aRow d e xs (.slice (some ⟨g, 0, none⟩) n c) [g] :: L') w1 → wpList Try.prog ops Q rest (a.put o.dst (goInt n)) w1) (hw : Region.wanted o (yielded ops a.tmps) = true := by exact rfl) (hop : o.op = Op.call { callee := Callee.builtin Builtin.copy, args := #[y, x], argTypes := #[t, t] } := by exact rfl) (ht : TySlc t e := by exact inferInstance) (hi : TyElem e zv m b := by exact inferInstance) (hm : m = d.sz := by exact rfl) (hy : a.eval y = .slice (some ⟨g, 0, none⟩) n c := by exact rfl) (hx : a.eval x = .slice A n c2 := by exact rfl) (hn : xs.length = n := by first | exact rfl | assumption) : wpList Try.prog ops Q (o :: rest) a W := by
  obtain ⟨w1, S1, hr⟩ := run_cp (o := o) (a := a) hp S p hrow hz hop ht hi hm hy hx hn
  exact wpList_of_run hw hr (h  w1 S1)
theorem rgCp {zs xs : List α} {F : List Nat} {e t m b n c c2 g : Nat} {zv : Value} {y x : Operand} {A : Option Addr} (hp : d.plain) (S : Sep F0 w0 L W) (p : Del L (aRow d e zs (.slice (some ⟨g, 0, none⟩) n c) F) L') (hrow : d.row W (.slice A n c2) xs) (hz : zs.length = n) (h : ∀  w1, Sep F0 w0 (aRow d e xs (.slice (some ⟨g, 0, none⟩) n c) [g] :: L') w1 → K (a.put o.dst (goInt n)) w1) (hw : Region.wanted o (yielded ops a.tmps) = true := by exact rfl) (hop : o.op = Op.call { callee := Callee.builtin Builtin.copy, args := #[y, x], argTypes := #[t, t] } := by exact rfl) (ht : TySlc t e := by exact inferInstance) (hi : TyElem e zv m b := by exact inferInstance) (hm : m = d.sz := by exact rfl) (hy : a.eval y = .slice (some ⟨g, 0, none⟩) n c := by exact rfl) (hx : a.eval x = .slice A n c2 := by exact rfl) (hn : xs.length = n := by first | exact rfl | assumption) : if Region.wanted o (yielded ops a.tmps) = true then Oper.wp Try.prog o a W K Q else K (a.put o.dst undef) W := by
  obtain ⟨w1, S1, hr⟩ := run_cp (o := o) (a := a) hp S p hrow hz hop ht hi hm hy hx hn
  exact step_of_run hw hr (h  w1 S1)
theorem splice {ws c1 ck c2 cs : List Value} {N a s : Nat} (h : ws.take N = c1 ++ (ck ++ c2)) (hN : (c1 ++ (ck ++ c2)).length = N) (h1 : c1.length = a) (h2 : ck.length = s) (h3 : cs.length = s) : (ws.take a ++ cs ++ ws.drop (a + s)).take N = c1 ++ (cs ++ c2) := by
  have e : ws = c1 ++ (ck ++ (c2 ++ ws.drop N)) := by
    conv => lhs; rw [← List.take_append_drop N ws, h]
    simp
  generalize ws.drop N = t at e
  subst e
  subst h1
  subst h2
  have e1 : (c1 ++ (ck ++ (c2 ++ t))).take c1.length = c1 := by simp
  have e2 : (c1 ++ (ck ++ (c2 ++ t))).drop (c1.length + ck.length) = c2 ++ t := by
    rw [← List.append_assoc]
    exact List.drop_left' (by simp)
  rw [e1, e2, show c1 ++ cs ++ (c2 ++ t) = (c1 ++ (cs ++ c2)) ++ t from by simp]
  exact List.take_left' (by rw [← hN]; simp [h3])
/-- A whole own struct, stored as an element of an own row: what it owns goes over. -/
theorem run_el {A B : List α} {x0 x : α} {cs : List Value} {F Fx : List Nat} {e ty n cap g k m q : Nat} {b : Bool} {x' y' : Operand} (S : Sep F0 w0 L W) (p : Del L (aRow d e (A ++ x0 :: B) (.slice (some ⟨g, 0, none⟩) n cap) F) L1) (r : Del L1 (aOwn d x cs Fx) L') (hA : A.length = k) (ho : o.op = .store ty x' y') (hi : TyInf ty b m) (hm : m = d.sz) (hx : a.eval x' = .pointer (some ⟨g, q, none⟩)) (hq : q = k * m) (hy : (a.eval y').cells = cs.toArray) : ∃ F' w1, Sep F0 w0 (aRow d e (A ++ x :: B) (.slice (some ⟨g, 0, none⟩) n cap) F' :: L') w1 ∧ (execOp a.eval o).run Try.prog W = .ok .skip w1 := by
  subst hm
  subst hq
  have S2 : Sep F0 w0 ([aRow d e (A ++ x0 :: B) (.slice (some ⟨g, 0, none⟩) n cap) F, aOwn d x cs Fx] ++ L') W := ((S.pull p).pull (.tail _ r)).pull (.tail _ (.head _ _))
  have hrw := S2.ok (aRow d e (A ++ x0 :: B) (.slice (some ⟨g, 0, none⟩) n cap) F) (by simp)
  have hox := S2.ok (aOwn d x cs Fx) (by simp)
  have hltx := d.own_lt hox
  have hl : cs.length = d.sz := d.len (d.own_rd hox)
  have hone := d.one hox
  obtain ⟨hlen, inner, F2, hown, he, hF⟩ := hrw
  have hk : k < (A ++ x0 :: B).length := by simp; omega
  obtain ⟨c1, ck, c2, F1, Fk, F3, rfl, rfl, e1, e2, e3, e4, e5⟩ := he.at_ hk
  have hnd : (F ++ Fx).Nodup := by
    have := S2.nd
    rw [show fps ([aRow d e (A ++ x0 :: B) (.slice (some ⟨g, 0, none⟩) n cap) F, aOwn d x cs Fx] ++ L') = F ++ (Fx ++ fps L') from rfl, ← List.append_assoc] at this
    exact (List.nodup_append.1 this).1
  have hF2 : F = [g] ++ (F1 ++ (Fk ++ F3)) := by rw [hF]; rfl
  rcases hown.2 with ⟨hv, _⟩ | ⟨g', cap', cur, hv, _, hb, hcap, hmax, hcur, htake⟩
  · cases hv
  simp only [Value.slice.injEq, Option.some.injEq, Addr.mk.injEq] at hv
  obtain ⟨⟨rfl, _⟩, hn, rfl⟩ := hv
  have hki : k * d.sz + d.sz ≤ cur.size := by
    rw [hcur, ← Nat.succ_mul]
    exact Nat.mul_le_mul_right _ (by omega)
  have hbox : Box W g e cur := ⟨hb⟩
  obtain ⟨w1, b1, ch, hrun⟩ := run_bstore (P := Try.prog) (o := o) (a := a) hbox ty x' y' ho hx cs.toArray hy (by simpa using hl) hi.s hki (by simpa using hone) _ rfl
  have hne : g ∉ F1 ++ (Fk ++ F3) := by
    rw [hF2] at hnd
    have := (List.nodup_append.1 hnd).1
    exact (List.nodup_cons.1 this).1
  have hnx : ∀ q ∈ Fx, q ≠ g := by
    intro q hq e0
    subst e0
    exact (List.nodup_append.1 hnd).2.2 q (by rw [hF2]; simp) q hq rfl
  have hfar : ∀ q, q < W.heap.size → q ≠ g → w1.heap[q]? = W.heap[q]? := fun q hq hn => ch.block q hq (by simpa using hn)
  have hFlt : ∀ q ∈ F1 ++ (Fk ++ F3), q < W.heap.size := he.lt
  have h4 := e4.keep (w' := w1) fun q hq => hfar q (hFlt q (by simp [hq])) (fun e0 => hne (by subst e0; simp [hq]))
  have h5 := e5.keep (w' := w1) fun q hq => hfar q (hFlt q (by simp [hq])) (fun e0 => hne (by subst e0; simp [hq]))
  have hx1 : d.own w1 x cs Fx := d.keep hox fun q hq => hfar q (hltx q hq) (hnx q hq)
  have hel := Ty.elems.put hk h4 hx1 h5
  rw [set_mid hA] at hel
  have hlr : (A ++ x :: B).length = (A ++ x0 :: B).length := by simp
  refine ⟨[g] ++ (F1 ++ (Fx ++ F3)), w1, Sep.call [aRow d e (A ++ x0 :: B) (.slice (some ⟨g, 0, none⟩) n cap) F, aOwn d x cs Fx] S2 (Sep.one1 (a := aRow d e (A ++ x :: B) (.slice (some ⟨g, 0, none⟩) n cap) ([g] ++ (F1 ++ (Fx ++ F3)))) (ch.mono (fun q hq => by rw [List.mem_singleton.1 hq]; show g ∈ F ++ _; rw [hF2]; simp)) ?_ ?_ ?_), hrun⟩
  · refine ⟨by rw [hlr]; exact hlen, c1 ++ (cs ++ c2), F1 ++ (Fx ++ F3), ⟨?_, .inr ⟨g, cap, _, by rw [hlr, hn], Nat.zero_le _, b1.blk, by rw [hlr]; exact hcap, hmax, ?_, ?_⟩⟩, hel, rfl⟩
    · have := hown.1
      rw [hlr, ← this]
      simp [hl, e2]
    · simp
      omega
    · have hN := hown.1
      rw [hlr]
      exact splice htake hN e1 e2 hl
  · intro q hq
    left
    show q ∈ F ++ (Fx ++ [])
    rw [hF2]
    rcases List.mem_append.1 hq with hq | hq
    · exact List.mem_append_left _ (List.mem_append_left _ hq)
    · rcases List.mem_append.1 hq with hq | hq
      · exact List.mem_append_left _ (List.mem_append_right _ (List.mem_append_left _ hq))
      · rcases List.mem_append.1 hq with hq | hq
        · exact List.mem_append_right _ (List.mem_append_left _ hq)
        · exact List.mem_append_left _ (List.mem_append_right _ (List.mem_append_right _ (List.mem_append_right _ hq)))
  · show ([g] ++ (F1 ++ (Fx ++ F3))).Nodup
    rw [hF2] at hnd
    have hsub : (([g] ++ (F1 ++ F3)) ++ Fx).Nodup := by
      refine List.Sublist.nodup (List.Sublist.append (List.Sublist.append (List.Sublist.refl _) (List.Sublist.append (List.Sublist.refl _) (List.sublist_append_right _ _))) (List.Sublist.refl _)) hnd
    refine (List.Perm.nodup_iff ?_).1 hsub
    simp only [List.append_assoc]
    refine List.Perm.append_left _ (List.Perm.append_left _ ?_)
    exact List.perm_append_comm
theorem aEl {A B : List α} {x0 x : α} {cs : List Value} {F Fx : List Nat} {e ty n cap g k m q : Nat} {b : Bool} {x' y' : Operand} (S : Sep F0 w0 L W) (p : Del L (aRow d e (A ++ x0 :: B) (.slice (some ⟨g, 0, none⟩) n cap) F) L1) (r : Del L1 (aOwn d x cs Fx) L') (hA : A.length = k) (h : ∀ (F' : List Nat) w1, Sep F0 w0 (aRow d e (A ++ x :: B) (.slice (some ⟨g, 0, none⟩) n cap) F' :: L') w1 → wpList Try.prog ops Q rest (a.put o.dst undef) w1) (hw : Region.wanted o (yielded ops a.tmps) = true := by exact rfl) (ho : o.op = .store ty x' y' := by exact rfl) (hi : TyInf ty b m := by exact inferInstance) (hm : m = d.sz := by exact rfl) (hx : a.eval x' = .pointer (some ⟨g, q, none⟩) := by exact rfl) (hq : q = k * m := by first | exact rfl | assumption) (hy : (a.eval y').cells = cs.toArray := by exact rfl) : wpList Try.prog ops Q (o :: rest) a W := by
  obtain ⟨F', w1, S1, hr⟩ := run_el (o := o) (a := a) S p r hA ho hi hm hx hq hy
  exact wpList_of_skip hw hr (h F' w1 S1)
theorem rgEl {A B : List α} {x0 x : α} {cs : List Value} {F Fx : List Nat} {e ty n cap g k m q : Nat} {b : Bool} {x' y' : Operand} (S : Sep F0 w0 L W) (p : Del L (aRow d e (A ++ x0 :: B) (.slice (some ⟨g, 0, none⟩) n cap) F) L1) (r : Del L1 (aOwn d x cs Fx) L') (hA : A.length = k) (h : ∀ (F' : List Nat) w1, Sep F0 w0 (aRow d e (A ++ x :: B) (.slice (some ⟨g, 0, none⟩) n cap) F' :: L') w1 → K (a.put o.dst undef) w1) (hw : Region.wanted o (yielded ops a.tmps) = true := by exact rfl) (ho : o.op = .store ty x' y' := by exact rfl) (hi : TyInf ty b m := by exact inferInstance) (hm : m = d.sz := by exact rfl) (hx : a.eval x' = .pointer (some ⟨g, q, none⟩) := by exact rfl) (hq : q = k * m := by first | exact rfl | assumption) (hy : (a.eval y').cells = cs.toArray := by exact rfl) : if Region.wanted o (yielded ops a.tmps) = true then Oper.wp Try.prog o a W K Q else K (a.put o.dst undef) W := by
  obtain ⟨F', w1, S1, hr⟩ := run_el (o := o) (a := a) S p r hA ho hi hm hx hq hy
  exact step_of_skip hw hr (h F' w1 S1)
end
end Go.Proofs.Ytapdcgjccckjeaa
