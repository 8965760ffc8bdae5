/- The texts Own2, Own3, StS, StS2, Fresh, Bank, BankOk, BankSep, Ch. -/
import Derived.Test.YtapdcgjccckjeaaPkFnChainNewB
import Derived.Test.YtapdcgjccckjeaaProg
namespace Go.Proofs.Ytapdcgjccckjeaa
set_option maxRecDepth 100000
set_option linter.unusedVariables false
set_option linter.unusedSimpArgs false
open Go.RowKit
section
variable {α : Type} {d : Ty α} {ops : Array Oper} {rest : List Oper} {o : Oper} {a : Act} {Q : Exit → Act → World → Prop} {W w0 : World} {F0 : List Nat} {L L1 L' : List Asrt} {K : Act → World → Prop}
/-- Appended: the elements of a slice that reads as a list (of a kind that leads nowhere). -/
theorem run_apR {xs ys us : List α} {v z : Value} {F : List Nat} {e t m b n c : Nat} {s x : Operand} {A : Option Addr} (hp : d.plain) (S : Sep F0 w0 L W) (p : Del L (aRow d e xs v F) L') (hrow : d.row W (.slice A n c) ys) (hpos : 0 < n ∨ ∃ g k cap, v = .slice (some ⟨g, 0, none⟩) k cap) (hle : xs.length + n ≤ 2097152) (hop : o.op = Op.call { callee := Callee.builtin Builtin.append, args := #[s, x], argTypes := #[t, t] }) (ht : TySlc t e) (hi : TyElem e z m b) (hzs : z.cells.size = m) (hm : m = d.sz) (hm0 : 0 < m) (hb : b ≤ 1000) (hs : a.eval s = v) (hx : a.eval x = .slice A n c) (hn : ys.length = n) (hus : xs ++ ys = us) : ∃ A' c' F' w1, Sep F0 w0 (aRow d e us (.slice A' us.length c') F' :: L') w1 ∧ (execOp a.eval o).run Try.prog W = .ok (.value (.slice A' us.length c')) w1 := by
  obtain ⟨news, hnl, hc, he⟩ := row_news hp hrow
  subst hn
  have hq := run_appg (d := d) (o := o) (a := a) [] (xs := xs) (ys := ys) (G2 := []) (S.pull p) s x t hop ht hi hzs hm hm0 hb hs A c _ hx rfl news hnl hrow.nilc hc (he W).one (fun w' _ => he w') (List.Sublist.refl _) hpos (fun h0 => row_some hrow h0) hle
  obtain ⟨v', F', w1, S1, hr⟩ := hq
  obtain ⟨A', c', rfl⟩ := (Ty.orow.row (S1.row (d := d) (xs := xs ++ ys) List.mem_cons_self)).val
  rw [hus] at S1 hr
  exact ⟨A', c', F', w1, S1, hr⟩
theorem aApR {xs ys us : List α} {v z : Value} {F : List Nat} {e t m b n c : Nat} {s x : Operand} {A : Option Addr} (hp : d.plain) (S : Sep F0 w0 L W) (p : Del L (aRow d e xs v F) L') (hrow : d.row W (.slice A n c) ys) (hpos : 0 < n ∨ ∃ g k cap, v = .slice (some ⟨g, 0, none⟩) k cap) (hle : xs.length + n ≤ 2097152) (h : ∀ (A' : Option Addr) (c' : Nat) (F' : List Nat) w1, Sep F0 w0 (aRow d e us (.slice A' us.length c') F' :: L') w1 → wpList Try.prog ops Q rest (a.put o.dst (.slice A' us.length c')) w1) (hw : Region.wanted o (yielded ops a.tmps) = true := by exact rfl) (hop : o.op = Op.call { callee := Callee.builtin Builtin.append, args := #[s, x], argTypes := #[t, t] } := by exact rfl) (ht : TySlc t e := by exact inferInstance) (hi : TyElem e z m b := by exact inferInstance) (hzs : z.cells.size = m := by exact rfl) (hm : m = d.sz := by exact rfl) (hm0 : 0 < m := by decide) (hb : b ≤ 1000 := by decide) (hs : a.eval s = v := by exact rfl) (hx : a.eval x = .slice A n c := by exact rfl) (hn : ys.length = n := by first | exact rfl | assumption) (hus : xs ++ ys = us := by first | exact List.nil_append _ | exact rfl) : wpList Try.prog ops Q (o :: rest) a W := by
  obtain ⟨A', c', F', w1, S1, hr⟩ := run_apR (o := o) (a := a) hp S p hrow hpos hle hop ht hi hzs hm hm0 hb hs hx hn hus
  exact wpList_of_run hw hr (h A' c' F' w1 S1)
theorem rgApR {xs ys us : List α} {v z : Value} {F : List Nat} {e t m b n c : Nat} {s x : Operand} {A : Option Addr} (hp : d.plain) (S : Sep F0 w0 L W) (p : Del L (aRow d e xs v F) L') (hrow : d.row W (.slice A n c) ys) (hpos : 0 < n ∨ ∃ g k cap, v = .slice (some ⟨g, 0, none⟩) k cap) (hle : xs.length + n ≤ 2097152) (h : ∀ (A' : Option Addr) (c' : Nat) (F' : List Nat) w1, Sep F0 w0 (aRow d e us (.slice A' us.length c') F' :: L') w1 → K (a.put o.dst (.slice A' us.length c')) w1) (hw : Region.wanted o (yielded ops a.tmps) = true := by exact rfl) (hop : o.op = Op.call { callee := Callee.builtin Builtin.append, args := #[s, x], argTypes := #[t, t] } := by exact rfl) (ht : TySlc t e := by exact inferInstance) (hi : TyElem e z m b := by exact inferInstance) (hzs : z.cells.size = m := by exact rfl) (hm : m = d.sz := by exact rfl) (hm0 : 0 < m := by decide) (hb : b ≤ 1000 := by decide) (hs : a.eval s = v := by exact rfl) (hx : a.eval x = .slice A n c := by exact rfl) (hn : ys.length = n := by first | exact rfl | assumption) (hus : xs ++ ys = us := by first | exact List.nil_append _ | exact rfl) : if Region.wanted o (yielded ops a.tmps) = true then Oper.wp Try.prog o a W K Q else K (a.put o.dst undef) W := by
  obtain ⟨A', c', F', w1, S1, hr⟩ := run_apR (o := o) (a := a) hp S p hrow hpos hle hop ht hi hzs hm hm0 hb hs hx hn hus
  exact step_of_run hw hr (h A' c' F' w1 S1)
/-- Appended: the elements of an own slice, which is given up. -/
theorem run_apO {xs ys us : List α} {v z : Value} {F G : List Nat} {e t m b n c : Nat} {s x : Operand} {A : Option Addr} (S : Sep F0 w0 L W) (p : Del L (aRow d e xs v F) L1) (q : Del L1 (aRow d e ys (.slice A n c) G) L') (hpos : 0 < n ∨ ∃ g k cap, v = .slice (some ⟨g, 0, none⟩) k cap) (hle : xs.length + n ≤ 2097152) (hop : o.op = Op.call { callee := Callee.builtin Builtin.append, args := #[s, x], argTypes := #[t, t] }) (ht : TySlc t e) (hi : TyElem e z m b) (hzs : z.cells.size = m) (hm : m = d.sz) (hm0 : 0 < m) (hb : b ≤ 1000) (hs : a.eval s = v) (hx : a.eval x = .slice A n c) (hn : ys.length = n) (hus : xs ++ ys = us) : ∃ A' c' F' w1, Sep F0 w0 (aRow d e us (.slice A' us.length c') F' :: L') w1 ∧ (execOp a.eval o).run Try.prog W = .ok (.value (.slice A' us.length c')) w1 := by
  have S1 := S.pull p
  have S2 : Sep F0 w0 (aRow d e xs v F :: (aRow d e ys (.slice A n c) G :: L')) W := (S1.pull (.tail _ q)).pull (.tail _ (.head _ _))
  have ho := S2.ok (aRow d e ys (.slice A n c) G) (by simp)
  have hrow : d.row W (.slice A n c) ys := Ty.orow.row ho
  obtain ⟨hl, inner, F3, hown, he, hF⟩ := ho
  subst hn
  have hc : ∀ ad, A = some ad → ∀ j u, inner[j]? = some u → W.cell? (ad.add j) = some u := by
    intro ad hA j u hj
    subst hA
    rcases hown.2 with ⟨h0, _⟩ | ⟨g', cap', cur, h0, _⟩
    · cases h0
    · cases h0
      rw [addr_add]
      have := hown.cells (g := g') rfl j u hj
      rwa [addr_add] at this
  have hq := run_appg (d := d) (o := o) (a := a) [aRow d e ys (.slice A ys.length c) G] (xs := xs) (ys := ys) (G2 := F3) S2 s x t hop ht hi hzs hm hm0 hb hs A c _ hx rfl inner he.len hrow.nilc hc he.one (fun w' hk => he.keep hk) (by show F3.Sublist (G ++ []); rw [hF, List.append_nil]; exact List.sublist_append_right _ _) hpos (fun h0 => row_some hrow h0) hle
  obtain ⟨v', F', w1, S1, hr⟩ := hq
  obtain ⟨A', c', rfl⟩ := (Ty.orow.row (S1.row (d := d) (xs := xs ++ ys) List.mem_cons_self)).val
  rw [hus] at S1 hr
  exact ⟨A', c', F', w1, S1, hr⟩
theorem aApO {xs ys us : List α} {v z : Value} {F G : List Nat} {e t m b n c : Nat} {s x : Operand} {A : Option Addr} (S : Sep F0 w0 L W) (p : Del L (aRow d e xs v F) L1) (q : Del L1 (aRow d e ys (.slice A n c) G) L') (hpos : 0 < n ∨ ∃ g k cap, v = .slice (some ⟨g, 0, none⟩) k cap) (hle : xs.length + n ≤ 2097152) (h : ∀ (A' : Option Addr) (c' : Nat) (F' : List Nat) w1, Sep F0 w0 (aRow d e us (.slice A' us.length c') F' :: L') w1 → wpList Try.prog ops Q rest (a.put o.dst (.slice A' us.length c')) w1) (hw : Region.wanted o (yielded ops a.tmps) = true := by exact rfl) (hop : o.op = Op.call { callee := Callee.builtin Builtin.append, args := #[s, x], argTypes := #[t, t] } := by exact rfl) (ht : TySlc t e := by exact inferInstance) (hi : TyElem e z m b := by exact inferInstance) (hzs : z.cells.size = m := by exact rfl) (hm : m = d.sz := by exact rfl) (hm0 : 0 < m := by decide) (hb : b ≤ 1000 := by decide) (hs : a.eval s = v := by exact rfl) (hx : a.eval x = .slice A n c := by exact rfl) (hn : ys.length = n := by first | exact rfl | assumption) (hus : xs ++ ys = us := by first | exact List.nil_append _ | exact rfl) : wpList Try.prog ops Q (o :: rest) a W := by
  obtain ⟨A', c', F', w1, S1, hr⟩ := run_apO (o := o) (a := a) S p q hpos hle hop ht hi hzs hm hm0 hb hs hx hn hus
  exact wpList_of_run hw hr (h A' c' F' w1 S1)
theorem rgApO {xs ys us : List α} {v z : Value} {F G : List Nat} {e t m b n c : Nat} {s x : Operand} {A : Option Addr} (S : Sep F0 w0 L W) (p : Del L (aRow d e xs v F) L1) (q : Del L1 (aRow d e ys (.slice A n c) G) L') (hpos : 0 < n ∨ ∃ g k cap, v = .slice (some ⟨g, 0, none⟩) k cap) (hle : xs.length + n ≤ 2097152) (h : ∀ (A' : Option Addr) (c' : Nat) (F' : List Nat) w1, Sep F0 w0 (aRow d e us (.slice A' us.length c') F' :: L') w1 → K (a.put o.dst (.slice A' us.length c')) w1) (hw : Region.wanted o (yielded ops a.tmps) = true := by exact rfl) (hop : o.op = Op.call { callee := Callee.builtin Builtin.append, args := #[s, x], argTypes := #[t, t] } := by exact rfl) (ht : TySlc t e := by exact inferInstance) (hi : TyElem e z m b := by exact inferInstance) (hzs : z.cells.size = m := by exact rfl) (hm : m = d.sz := by exact rfl) (hm0 : 0 < m := by decide) (hb : b ≤ 1000 := by decide) (hs : a.eval s = v := by exact rfl) (hx : a.eval x = .slice A n c := by exact rfl) (hn : ys.length = n := by first | exact rfl | assumption) (hus : xs ++ ys = us := by first | exact List.nil_append _ | exact rfl) : if Region.wanted o (yielded ops a.tmps) = true then Oper.wp Try.prog o a W K Q else K (a.put o.dst undef) W := by
  obtain ⟨A', c', F', w1, S1, hr⟩ := run_apO (o := o) (a := a) S p q hpos hle hop ht hi hzs hm hm0 hb hs hx hn hus
  exact step_of_run hw hr (h A' c' F' w1 S1)
/-- A new row of zeros. -/
theorem run_mk {cz : List Value} {zv : Value} {e t m b n : Nat} {x y : Operand} (z : α) (S : Sep F0 w0 L W) (hz : ∀ w, d.own w z cz []) (hn : n ≤ 2097152) (ho : o.op = .makeSlice t x y) (ht : TySlc t e) (hi : TyElem e zv m b) (hm : m = d.sz) (hb : b ≤ 1000) (hcz : zv.cells = cz.toArray) (hx : a.eval x = .int .i64 n) (hy : a.eval y = .int .i64 n) : ∃ g w1, W.heap.size ≤ g ∧ Sep F0 w0 (aRow d e (List.replicate n z) (.slice (some ⟨g, 0, none⟩) n n) [g] :: L) w1 ∧ (execOp a.eval o).run Try.prog W = .ok (.value (.slice (some ⟨g, 0, none⟩) n n)) w1 := by
  obtain ⟨i, hi0, hzz⟩ := Option.map_eq_some_iff.1 hi.h
  simp only [Prod.mk.injEq] at hzz
  obtain ⟨hz0, hz1, hz2⟩ := hzz
  have hbn : (b : Int) * (n : Int) ≤ 281474976710656 := by
    have : b * n ≤ 1000 * 2097152 := Nat.mul_le_mul hb hn
    have h3 : ((b * n : Nat) : Int) ≤ 2097152000 := by omega
    rw [Int.natCast_mul] at h3
    omega
  have hr := run_make (P := Try.prog) W t e i _ ht.u hi0 hz0 .i64 .i64 n n (by omega) (Int.le_refl _) (by rw [hz2]; exact hbn) (by omega)
  simp only [Int.toNat_natCast, hz1, hcz, hm] at hr
  exact run_smade S d e z cz n hz hn _ rfl (by unfold execOp; simp only [ho, hx, hy, hr, Sem.run_bind, Result.andThen_ok, Sem.run_pure])
theorem aMk {cz : List Value} {zv : Value} {e t m b n : Nat} {x y : Operand} (z : α) (S : Sep F0 w0 L W) (hz : ∀ w, d.own w z cz []) (hn : n ≤ 2097152) (h : ∀ (g : Nat) w1, W.heap.size ≤ g → Sep F0 w0 (aRow d e (List.replicate n z) (.slice (some ⟨g, 0, none⟩) n n) [g] :: L) w1 → wpList Try.prog ops Q rest (a.put o.dst (.slice (some ⟨g, 0, none⟩) n n)) w1) (hw : Region.wanted o (yielded ops a.tmps) = true := by exact rfl) (ho : o.op = .makeSlice t x y := by exact rfl) (ht : TySlc t e := by exact inferInstance) (hi : TyElem e zv m b := by exact inferInstance) (hm : m = d.sz := by exact rfl) (hb : b ≤ 1000 := by decide) (hcz : zv.cells = cz.toArray := by exact rfl) (hx : a.eval x = .int .i64 n := by exact rfl) (hy : a.eval y = .int .i64 n := by exact rfl) : wpList Try.prog ops Q (o :: rest) a W := by
  obtain ⟨g, w1, hg, S1, hr⟩ := run_mk (o := o) (a := a) z S hz hn ho ht hi hm hb hcz hx hy
  exact wpList_of_run hw hr (h g w1 hg S1)
theorem rgMk {cz : List Value} {zv : Value} {e t m b n : Nat} {x y : Operand} (z : α) (S : Sep F0 w0 L W) (hz : ∀ w, d.own w z cz []) (hn : n ≤ 2097152) (h : ∀ (g : Nat) w1, W.heap.size ≤ g → Sep F0 w0 (aRow d e (List.replicate n z) (.slice (some ⟨g, 0, none⟩) n n) [g] :: L) w1 → K (a.put o.dst (.slice (some ⟨g, 0, none⟩) n n)) w1) (hw : Region.wanted o (yielded ops a.tmps) = true := by exact rfl) (ho : o.op = .makeSlice t x y := by exact rfl) (ht : TySlc t e := by exact inferInstance) (hi : TyElem e zv m b := by exact inferInstance) (hm : m = d.sz := by exact rfl) (hb : b ≤ 1000 := by decide) (hcz : zv.cells = cz.toArray := by exact rfl) (hx : a.eval x = .int .i64 n := by exact rfl) (hy : a.eval y = .int .i64 n := by exact rfl) : if Region.wanted o (yielded ops a.tmps) = true then Oper.wp Try.prog o a W K Q else K (a.put o.dst undef) W := by
  obtain ⟨g, w1, hg, S1, hr⟩ := run_mk (o := o) (a := a) z S hz hn ho ht hi hm hb hcz hx hy
  exact step_of_run hw hr (h g w1 hg S1)
theorem orow_empty (d : Ty α) (e : Nat) (w : World) : d.orow e (w.alloc (.cells #[] e)) (.slice (some ⟨w.heap.size, 0, none⟩) 0 0) [] [w.heap.size] := by
  have h := World.ownsRow_lit (base := 0) (e := e) (size := d.sz) w #[] 0 (Nat.zero_le _) (by simp [maxLen]) (by simp)
  exact ⟨by simp, [], [], h, ⟨rfl, rfl⟩, rfl⟩
/-- An empty literal. -/
theorem run_lit0 {e : Nat} (d : Ty α) (S : Sep F0 w0 L W) (hr : (execOp a.eval o).run Try.prog W = .ok (.value (.slice (some ⟨W.heap.size, 0, none⟩) 0 0)) (W.alloc (.cells #[] e))) : ∃ g w1, W.heap.size ≤ g ∧ Sep F0 w0 (aRow d e [] (.slice (some ⟨g, 0, none⟩) 0 0) [g] :: L) w1 ∧ (execOp a.eval o).run Try.prog W = .ok (.value (.slice (some ⟨g, 0, none⟩) 0 0)) w1 := by
  exact ⟨_, _, Nat.le_refl _, S.new (aRow d e [] _ [W.heap.size]) (orow_empty d e W) (by simp [aRow]) (fun q hq => by rw [List.mem_singleton.1 hq]; exact Nat.le_refl _) ((Fr.refl W).alloc _), hr⟩
theorem aLit0 {e : Nat} (d : Ty α) (S : Sep F0 w0 L W) (h : ∀ (g : Nat) w1, W.heap.size ≤ g → Sep F0 w0 (aRow d e [] (.slice (some ⟨g, 0, none⟩) 0 0) [g] :: L) w1 → wpList Try.prog ops Q rest (a.put o.dst (.slice (some ⟨g, 0, none⟩) 0 0)) w1) (hw : Region.wanted o (yielded ops a.tmps) = true := by exact rfl) (hr : (execOp a.eval o).run Try.prog W = .ok (.value (.slice (some ⟨W.heap.size, 0, none⟩) 0 0)) (W.alloc (.cells #[] e)) := by first | (go_simp; done) | (go_simp; rfl)) : wpList Try.prog ops Q (o :: rest) a W := by
  obtain ⟨g, w1, hg, S1, hr⟩ := run_lit0 (o := o) (a := a) d S hr
  exact wpList_of_run hw hr (h g w1 hg S1)
theorem rgLit0 {e : Nat} (d : Ty α) (S : Sep F0 w0 L W) (h : ∀ (g : Nat) w1, W.heap.size ≤ g → Sep F0 w0 (aRow d e [] (.slice (some ⟨g, 0, none⟩) 0 0) [g] :: L) w1 → K (a.put o.dst (.slice (some ⟨g, 0, none⟩) 0 0)) w1) (hw : Region.wanted o (yielded ops a.tmps) = true := by exact rfl) (hr : (execOp a.eval o).run Try.prog W = .ok (.value (.slice (some ⟨W.heap.size, 0, none⟩) 0 0)) (W.alloc (.cells #[] e)) := by first | (go_simp; done) | (go_simp; rfl)) : if Region.wanted o (yielded ops a.tmps) = true then Oper.wp Try.prog o a W K Q else K (a.put o.dst undef) W := by
  obtain ⟨g, w1, hg, S1, hr⟩ := run_lit0 (o := o) (a := a) d S hr
  exact step_of_run hw hr (h g w1 hg S1)
/-- A literal of one own struct. -/
theorem run_lit1 {x : α} {cs : List Value} {Fx : List Nat} (e : Nat) (S : Sep F0 w0 L W) (p : Del L (aOwn d x cs Fx) L') (hr : (execOp a.eval o).run Try.prog W = .ok (.value (.slice (some ⟨W.heap.size, 0, none⟩) 1 1)) (W.alloc (.cells cs.toArray e))) : ∃ g w1, W.heap.size ≤ g ∧ Sep F0 w0 (aRow d e [x] (.slice (some ⟨g, 0, none⟩) 1 1) ([g] ++ Fx) :: L') w1 ∧ (execOp a.eval o).run Try.prog W = .ok (.value (.slice (some ⟨g, 0, none⟩) 1 1)) w1 := by
  have S1 := (S.pull p).fr ((Fr.refl W).alloc (.cells cs.toArray e))
  have hx := S1.ok (aOwn d x cs Fx) (by simp)
  have hx0 := (S.pull p).ok (aOwn d x cs Fx) (by simp)
  have hl : cs.length = d.sz := d.len (d.own_rd hx0)
  refine ⟨W.heap.size, _, Nat.le_refl _, Sep.call [aOwn d x cs Fx] (S.pull p) (Sep.one1 (a := aRow d e [x] _ ([W.heap.size] ++ Fx)) ((Chg.refl _ W).alloc _) ?_ ?_ ?_), hr⟩
  · have h := World.ownsRow_lit (base := 0) (e := e) (size := d.sz) W cs.toArray 1 (Nat.zero_le _) (by simp [maxLen]) (by simpa using hl)
    exact ⟨by simp, cs, Fx, by simpa using h, Ty.elems.single hx, rfl⟩
  · intro g hg
    rcases List.mem_append.1 hg with hg | hg
    · right; rw [List.mem_singleton.1 hg]; exact Nat.le_refl _
    · left; simp [fps, aOwn, hg]
  · refine List.nodup_cons.2 ⟨fun hm => ?_, (S.pull p).nodup (a := aOwn d x cs Fx) (by simp)⟩
    have := d.own_lt hx0 _ hm
    omega
theorem aLit1 {x : α} {cs : List Value} {Fx : List Nat} (e : Nat) (S : Sep F0 w0 L W) (p : Del L (aOwn d x cs Fx) L') (h : ∀ (g : Nat) w1, W.heap.size ≤ g → Sep F0 w0 (aRow d e [x] (.slice (some ⟨g, 0, none⟩) 1 1) ([g] ++ Fx) :: L') w1 → wpList Try.prog ops Q rest (a.put o.dst (.slice (some ⟨g, 0, none⟩) 1 1)) w1) (hw : Region.wanted o (yielded ops a.tmps) = true := by exact rfl) (hr : (execOp a.eval o).run Try.prog W = .ok (.value (.slice (some ⟨W.heap.size, 0, none⟩) 1 1)) (W.alloc (.cells cs.toArray e)) := by first | (go_simp; done) | (go_simp; rfl)) : wpList Try.prog ops Q (o :: rest) a W := by
  obtain ⟨g, w1, hg, S1, hr⟩ := run_lit1 (o := o) (a := a) e S p hr
  exact wpList_of_run hw hr (h g w1 hg S1)
theorem rgLit1 {x : α} {cs : List Value} {Fx : List Nat} (e : Nat) (S : Sep F0 w0 L W) (p : Del L (aOwn d x cs Fx) L') (h : ∀ (g : Nat) w1, W.heap.size ≤ g → Sep F0 w0 (aRow d e [x] (.slice (some ⟨g, 0, none⟩) 1 1) ([g] ++ Fx) :: L') w1 → K (a.put o.dst (.slice (some ⟨g, 0, none⟩) 1 1)) w1) (hw : Region.wanted o (yielded ops a.tmps) = true := by exact rfl) (hr : (execOp a.eval o).run Try.prog W = .ok (.value (.slice (some ⟨W.heap.size, 0, none⟩) 1 1)) (W.alloc (.cells cs.toArray e)) := by first | (go_simp; done) | (go_simp; rfl)) : if Region.wanted o (yielded ops a.tmps) = true then Oper.wp Try.prog o a W K Q else K (a.put o.dst undef) W := by
  obtain ⟨g, w1, hg, S1, hr⟩ := run_lit1 (o := o) (a := a) e S p hr
  exact step_of_run hw hr (h g w1 hg S1)
/-- A literal of two own structs. -/
theorem run_lit2 {x y : α} {cs ds : List Value} {Fx Fy : List Nat} (e : Nat) (S : Sep F0 w0 L W) (p : Del L (aOwn d x cs Fx) L1) (q : Del L1 (aOwn d y ds Fy) L') (hr : (execOp a.eval o).run Try.prog W = .ok (.value (.slice (some ⟨W.heap.size, 0, none⟩) 2 2)) (W.alloc (.cells (cs ++ ds).toArray e))) : ∃ g w1, W.heap.size ≤ g ∧ Sep F0 w0 (aRow d e [x, y] (.slice (some ⟨g, 0, none⟩) 2 2) ([g] ++ (Fx ++ Fy)) :: L') w1 ∧ (execOp a.eval o).run Try.prog W = .ok (.value (.slice (some ⟨g, 0, none⟩) 2 2)) w1 := by
  have S2 : Sep F0 w0 ([aOwn d x cs Fx, aOwn d y ds Fy] ++ L') W := ((S.pull p).pull (.tail _ q)).pull (.tail _ (.head _ _))
  have S1 := S2.fr ((Fr.refl W).alloc (.cells (cs ++ ds).toArray e))
  have hx := S1.ok (aOwn d x cs Fx) (by simp)
  have hx0 := S2.ok (aOwn d x cs Fx) (by simp)
  have hy := S1.ok (aOwn d y ds Fy) (by simp)
  have hy0 := S2.ok (aOwn d y ds Fy) (by simp)
  have hl : cs.length = d.sz := d.len (d.own_rd hx0)
  have hl2 : ds.length = d.sz := d.len (d.own_rd hy0)
  have hnd : (Fx ++ Fy).Nodup := by
    have := S2.nd
    rw [show fps ([aOwn d x cs Fx, aOwn d y ds Fy] ++ L') = Fx ++ (Fy ++ fps L') from rfl, ← List.append_assoc] at this
    exact (List.nodup_append.1 this).1
  refine ⟨W.heap.size, _, Nat.le_refl _, Sep.call [aOwn d x cs Fx, aOwn d y ds Fy] S2 (Sep.one1 (a := aRow d e [x, y] _ ([W.heap.size] ++ (Fx ++ Fy))) ((Chg.refl _ W).alloc _) ?_ ?_ ?_), hr⟩
  · have h := World.ownsRow_lit (base := 0) (e := e) (size := d.sz) W (cs ++ ds).toArray 2 (Nat.zero_le _) (by simp [maxLen]) (by simp [hl, hl2]; omega)
    exact ⟨by simp, cs ++ ds, Fx ++ Fy, by simpa using h, Ty.elems.append (xs := [x]) (ys := [y]) (Ty.elems.single hx) (Ty.elems.single hy), rfl⟩
  · intro g hg
    rcases List.mem_append.1 hg with hg | hg
    · right; rw [List.mem_singleton.1 hg]; exact Nat.le_refl _
    · left
      show g ∈ Fx ++ (Fy ++ [])
      simpa using hg
  · refine List.nodup_cons.2 ⟨fun hm0 => ?_, hnd⟩
    have hm1 : W.heap.size ∈ Fx ++ Fy := hm0
    rcases List.mem_append.1 hm1 with hm | hm
    · have := d.own_lt hx0 _ hm
      omega
    · have := d.own_lt hy0 _ hm
      omega
theorem aLit2 {x y : α} {cs ds : List Value} {Fx Fy : List Nat} (e : Nat) (S : Sep F0 w0 L W) (p : Del L (aOwn d x cs Fx) L1) (q : Del L1 (aOwn d y ds Fy) L') (h : ∀ (g : Nat) w1, W.heap.size ≤ g → Sep F0 w0 (aRow d e [x, y] (.slice (some ⟨g, 0, none⟩) 2 2) ([g] ++ (Fx ++ Fy)) :: L') w1 → wpList Try.prog ops Q rest (a.put o.dst (.slice (some ⟨g, 0, none⟩) 2 2)) w1) (hw : Region.wanted o (yielded ops a.tmps) = true := by exact rfl) (hr : (execOp a.eval o).run Try.prog W = .ok (.value (.slice (some ⟨W.heap.size, 0, none⟩) 2 2)) (W.alloc (.cells (cs ++ ds).toArray e)) := by first | (go_simp; done) | (go_simp; rfl)) : wpList Try.prog ops Q (o :: rest) a W := by
  obtain ⟨g, w1, hg, S1, hr⟩ := run_lit2 (o := o) (a := a) e S p q hr
  exact wpList_of_run hw hr (h g w1 hg S1)
theorem rgLit2 {x y : α} {cs ds : List Value} {Fx Fy : List Nat} (e : Nat) (S : Sep F0 w0 L W) (p : Del L (aOwn d x cs Fx) L1) (q : Del L1 (aOwn d y ds Fy) L') (h : ∀ (g : Nat) w1, W.heap.size ≤ g → Sep F0 w0 (aRow d e [x, y] (.slice (some ⟨g, 0, none⟩) 2 2) ([g] ++ (Fx ++ Fy)) :: L') w1 → K (a.put o.dst (.slice (some ⟨g, 0, none⟩) 2 2)) w1) (hw : Region.wanted o (yielded ops a.tmps) = true := by exact rfl) (hr : (execOp a.eval o).run Try.prog W = .ok (.value (.slice (some ⟨W.heap.size, 0, none⟩) 2 2)) (W.alloc (.cells (cs ++ ds).toArray e)) := by first | (go_simp; done) | (go_simp; rfl)) : if Region.wanted o (yielded ops a.tmps) = true then Oper.wp Try.prog o a W K Q else K (a.put o.dst undef) W := by
  obtain ⟨g, w1, hg, S1, hr⟩ := run_lit2 (o := o) (a := a) e S p q hr
  exact step_of_run hw hr (h g w1 hg S1)
/-- A literal of elements that lead nowhere. -/
theorem run_litP  (xs : List α) (e : Nat) (cs : List Value) (S : Sep F0 w0 L W) (hel : ∀ w, d.elems w xs cs []) (n : Nat) (hn : xs.length = n) (hn2 : n ≤ 2097152) (hr : (execOp a.eval o).run Try.prog W = .ok (.value (.slice (some ⟨W.heap.size, 0, none⟩) n n)) (W.alloc (.cells cs.toArray e))) : ∃ g w1, W.heap.size ≤ g ∧ Sep F0 w0 (aRow d e xs (.slice (some ⟨g, 0, none⟩) n n) [g] :: L) w1 ∧ (execOp a.eval o).run Try.prog W = .ok (.value (.slice (some ⟨g, 0, none⟩) n n)) w1 := by
  subst hn
  refine ⟨W.heap.size, _, Nat.le_refl _, S.new (aRow d e xs _ [W.heap.size]) ?_ (by simp [aRow]) (fun q hq => by rw [List.mem_singleton.1 hq]; exact Nat.le_refl _) ((Fr.refl W).alloc _), hr⟩
  have h := World.ownsRow_lit (base := 0) (e := e) (size := d.sz) W cs.toArray xs.length (Nat.zero_le _) (by simp only [maxLen]; omega) (by simpa using (hel W).len)
  exact ⟨hn2, cs, [], by simpa using h, hel _, rfl⟩
theorem aLitP  (xs : List α) (e : Nat) (cs : List Value) (S : Sep F0 w0 L W) (hel : ∀ w, d.elems w xs cs []) (n : Nat) (hn : xs.length = n) (hn2 : n ≤ 2097152) (h : ∀ (g : Nat) w1, W.heap.size ≤ g → Sep F0 w0 (aRow d e xs (.slice (some ⟨g, 0, none⟩) n n) [g] :: L) w1 → wpList Try.prog ops Q rest (a.put o.dst (.slice (some ⟨g, 0, none⟩) n n)) w1) (hw : Region.wanted o (yielded ops a.tmps) = true := by exact rfl) (hr : (execOp a.eval o).run Try.prog W = .ok (.value (.slice (some ⟨W.heap.size, 0, none⟩) n n)) (W.alloc (.cells cs.toArray e)) := by first | (go_simp; done) | (go_simp; rfl)) : wpList Try.prog ops Q (o :: rest) a W := by
  obtain ⟨g, w1, hg, S1, hr⟩ := run_litP (o := o) (a := a) xs e cs S hel n hn hn2 hr
  exact wpList_of_run hw hr (h g w1 hg S1)
theorem rgLitP  (xs : List α) (e : Nat) (cs : List Value) (S : Sep F0 w0 L W) (hel : ∀ w, d.elems w xs cs []) (n : Nat) (hn : xs.length = n) (hn2 : n ≤ 2097152) (h : ∀ (g : Nat) w1, W.heap.size ≤ g → Sep F0 w0 (aRow d e xs (.slice (some ⟨g, 0, none⟩) n n) [g] :: L) w1 → K (a.put o.dst (.slice (some ⟨g, 0, none⟩) n n)) w1) (hw : Region.wanted o (yielded ops a.tmps) = true := by exact rfl) (hr : (execOp a.eval o).run Try.prog W = .ok (.value (.slice (some ⟨W.heap.size, 0, none⟩) n n)) (W.alloc (.cells cs.toArray e)) := by first | (go_simp; done) | (go_simp; rfl)) : if Region.wanted o (yielded ops a.tmps) = true then Oper.wp Try.prog o a W K Q else K (a.put o.dst undef) W := by
  obtain ⟨g, w1, hg, S1, hr⟩ := run_litP (o := o) (a := a) xs e cs S hel n hn hn2 hr
  exact step_of_run hw hr (h g w1 hg S1)
theorem run_copy_any (w : World) (dT sT ty elem s : TypeId) (g n dCap : Nat) (a : Addr) (sCap : Nat) (cur : Array Value) (t : TypeId) (cs : List Value) (hu : Try.prog.underlying dT = some (.slice elem)) (hs : (Try.prog.info? elem).map (·.size) = some s)
    (hg : w.heap[g]? = some (.cells cur t (0, 0))) (hn : cs.length = n * s) (hsrc : ∀ j v, cs[j]? = some v → w.cell? (a.add j) = some v) (hfit : cs.length ≤ cur.size) (h1 : ∀ v ∈ cs, v.oneCell' = true) :
    (Builtin.copy_ #[dT, sT] ty #[.slice (some ⟨g, 0, none⟩) n dCap, .slice (some a) n sCap]).run Try.prog w = .ok (goInt n) (w.setRow g (cs ++ cur.toList.drop cs.length).toArray) := by
  have hl := run_loadCells_list (P := Try.prog) w a cs hsrc
  have hst := run_storeCells_at Try.prog g 0 t cs 0 cur w hg (by simpa using hfit) h1
  cases hq : Try.prog.info? elem with
  | none => simp [hq] at hs
  | some i =>
    have hi : i.size = s := by simpa [hq] using hs
    have hm : Nat.min n n = n := Nat.min_self n
    simp [Builtin.copy_, run_underlying hu, Builtin.lenOf, Builtin.firstCells, sizeOf, typeInfo, hq, hi, hm, ← hn, hl, hst]
/-- builtin copy of a slice that reads as a list into an own row of that length. -/
theorem run_cp {zs xs : List α} {F : List Nat} {e t m b n c c2 g : Nat} {zv : Value} {y x : Operand} {A : Option Addr} (hp : d.plain) (S : Sep F0 w0 L W) (p : Del L (aRow d e zs (.slice (some ⟨g, 0, none⟩) n c) F) L') (hrow : d.row W (.slice A n c2) xs) (hz : zs.length = n) (hop : o.op = Op.call { callee := Callee.builtin Builtin.copy, args := #[y, x], argTypes := #[t, t] }) (ht : TySlc t e) (hi : TyElem e zv m b) (hm : m = d.sz) (hy : a.eval y = .slice (some ⟨g, 0, none⟩) n c) (hx : a.eval x = .slice A n c2) (hn : xs.length = n) : ∃  w1, Sep F0 w0 (aRow d e xs (.slice (some ⟨g, 0, none⟩) n c) [g] :: L') w1 ∧ (execOp a.eval o).run Try.prog W = .ok (.value (goInt n)) w1 := by
  subst hm
  subst hn
  have S1 := S.pull p
  have ho := S1.ok _ List.mem_cons_self
  obtain ⟨news, hnl, hc, he⟩ := row_news hp hrow
  obtain ⟨hl, inner, F2, hown, he0, hF⟩ := ho
  obtain ⟨i, hi0, hzz⟩ := Option.map_eq_some_iff.1 hi.h
  simp only [Prod.mk.injEq] at hzz
  obtain ⟨hz0, hz1, hz2⟩ := hzz
  have hsz : (Try.prog.info? e).map (·.size) = some d.sz := by rw [hi0]; simp [hz1]
  have hgF : g ∈ F := by rw [hF]; simp [Value.ownBlock]
  rcases hown.2 with ⟨hv, _⟩ | ⟨g', cap, cur, hv, _, hb, hcap, hmax, hcur, htake⟩
  · cases hv
  simp only [Value.slice.injEq, Option.some.injEq, Addr.mk.injEq] at hv
  obtain ⟨⟨rfl, _⟩, hnl2, rfl⟩ := hv
  have hlen : news.length ≤ cur.size := by rw [hnl, hcur]; exact Nat.mul_le_mul_right _ (by omega)
  have hdone : Sep F0 w0 (aRow d e xs (.slice (some ⟨g, 0, none⟩) xs.length c) [g] :: L') (W.setRow g (news ++ cur.toList.drop news.length).toArray) := by
    have hcg : Chg (fps [aRow d e zs (.slice (some ⟨g, 0, none⟩) xs.length c) F]) W (W.setRow g (news ++ cur.toList.drop news.length).toArray) := ⟨rfl, rfl, rfl, by simp [World.setRow], fun k _ hk => setRow_other W g k _ (fun e0 => hk (by simp [fps, aRow, e0, hgF]))⟩
    refine Sep.call [aRow d e zs (.slice (some ⟨g, 0, none⟩) xs.length c) F] S1 (Sep.one1 (a := aRow d e xs _ [g]) hcg ?_ (fun q hq => .inl (by rw [List.mem_singleton.1 hq]; simp [fps, aRow, hgF])) (by simp [aRow]))
    refine ⟨by omega, news, [], ⟨hnl, .inr ⟨g, c, _, rfl, Nat.zero_le _, setRow_heap W g cur _ e (0, 0) hb, by omega, hmax, ?_, ?_⟩⟩, he _, rfl⟩
    · simp
      omega
    · rw [← hnl]
      simp
  cases hA : A with
  | some ad =>
    subst hA
    have hrun := run_copy_any W t t o.type e d.sz g xs.length c ad c2 cur e news ht.u hsz hb hnl (hc ad rfl) hlen (he W).one
    exact ⟨_, hdone, by simp [execOp, hop, resolve, invoke, builtin, hy, hx, hrun, Result.andThen]⟩
  | none =>
    have h0 : xs.length = 0 := by
      rcases Nat.eq_zero_or_pos xs.length with h0 | h0
      · exact h0
      · obtain ⟨ad, h1⟩ := row_some hrow h0
        rw [hA] at h1
        cases h1
    have hc2 := hrow.nilc hA
    have hnews : news = [] := List.eq_nil_of_length_eq_zero (by rw [hnl, h0]; simp)
    subst hA
    have hrun : (Builtin.copy_ #[t, t] o.type #[.slice (some ⟨g, 0, none⟩) xs.length c, .slice none xs.length c2]).run Try.prog W = .ok (goInt xs.length) W := by
      rw [h0]
      simp [Builtin.copy_, run_underlying ht.u, Builtin.lenOf, Builtin.firstCells, sizeOf, typeInfo, hi0, storeCells]
    have hsame : W.setRow g (news ++ cur.toList.drop news.length).toArray = W := by
      rw [hnews]
      simpa using setRow_self W g cur e (0, 0) hb
    rw [hsame] at hdone
    exact ⟨W, hdone, by simp [execOp, hop, resolve, invoke, builtin, hy, hx, hrun, Result.andThen]⟩
theorem aCp {zs xs : List α} {F : List Nat} {e t m b n c c2 g : Nat} {zv : Value} {y x : Operand} {A : Option Addr} (hp : d.plain) (S : Sep F0 w0 L W) (p : Del L (aRow d e zs (.slice (some ⟨g, 0, none⟩) n c) F) L') (hrow : d.row W (.slice A n c2) xs) (hz : zs.length = n) (h : ∀  w1, Sep F0 w0 (aRow d e xs (.slice (some ⟨g, 0, none⟩) n c) [g] :: L') w1 → wpList Try.prog ops Q rest (a.put o.dst (goInt n)) w1) (hw : Region.wanted o (yielded ops a.tmps) = true := by exact rfl) (hop : o.op = Op.call { callee := Callee.builtin Builtin.copy, args := #[y, x], argTypes := #[t, t] } := by exact rfl) (ht : TySlc t e := by exact inferInstance) (hi : TyElem e zv m b := by exact inferInstance) (hm : m = d.sz := by exact rfl) (hy : a.eval y = .slice (some ⟨g, 0, none⟩) n c := by exact rfl) (hx : a.eval x = .slice A n c2 := by exact rfl) (hn : xs.length = n := by first | exact rfl | assumption) : wpList Try.prog ops Q (o :: rest) a W := by
  obtain ⟨w1, S1, hr⟩ := run_cp (o := o) (a := a) hp S p hrow hz hop ht hi hm hy hx hn
  exact wpList_of_run hw hr (h  w1 S1)
theorem rgCp {zs xs : List α} {F : List Nat} {e t m b n c c2 g : Nat} {zv : Value} {y x : Operand} {A : Option Addr} (hp : d.plain) (S : Sep F0 w0 L W) (p : Del L (aRow d e zs (.slice (some ⟨g, 0, none⟩) n c) F) L') (hrow : d.row W (.slice A n c2) xs) (hz : zs.length = n) (h : ∀  w1, Sep F0 w0 (aRow d e xs (.slice (some ⟨g, 0, none⟩) n c) [g] :: L') w1 → K (a.put o.dst (goInt n)) w1) (hw : Region.wanted o (yielded ops a.tmps) = true := by exact rfl) (hop : o.op = Op.call { callee := Callee.builtin Builtin.copy, args := #[y, x], argTypes := #[t, t] } := by exact rfl) (ht : TySlc t e := by exact inferInstance) (hi : TyElem e zv m b := by exact inferInstance) (hm : m = d.sz := by exact rfl) (hy : a.eval y = .slice (some ⟨g, 0, none⟩) n c := by exact rfl) (hx : a.eval x = .slice A n c2 := by exact rfl) (hn : xs.length = n := by first | exact rfl | assumption) : if Region.wanted o (yielded ops a.tmps) = true then Oper.wp Try.prog o a W K Q else K (a.put o.dst undef) W := by
  obtain ⟨w1, S1, hr⟩ := run_cp (o := o) (a := a) hp S p hrow hz hop ht hi hm hy hx hn
  exact step_of_run hw hr (h  w1 S1)
theorem splice {ws c1 ck c2 cs : List Value} {N a s : Nat} (h : ws.take N = c1 ++ (ck ++ c2)) (hN : (c1 ++ (ck ++ c2)).length = N) (h1 : c1.length = a) (h2 : ck.length = s) (h3 : cs.length = s) : (ws.take a ++ cs ++ ws.drop (a + s)).take N = c1 ++ (cs ++ c2) := by
  have e : ws = c1 ++ (ck ++ (c2 ++ ws.drop N)) := by
    conv => lhs; rw [← List.take_append_drop N ws, h]
    simp
  generalize ws.drop N = t at e
  subst e
  subst h1
  subst h2
  have e1 : (c1 ++ (ck ++ (c2 ++ t))).take c1.length = c1 := by simp
  have e2 : (c1 ++ (ck ++ (c2 ++ t))).drop (c1.length + ck.length) = c2 ++ t := by
    rw [← List.append_assoc]
    exact List.drop_left' (by simp)
  rw [e1, e2, show c1 ++ cs ++ (c2 ++ t) = (c1 ++ (cs ++ c2)) ++ t from by simp]
  exact List.take_left' (by rw [← hN]; simp [h3])
/-- A whole own struct, stored as an element of an own row: what it owns goes over. -/
theorem run_el {A B : List α} {x0 x : α} {cs : List Value} {F Fx : List Nat} {e ty n cap g k m q : Nat} {b : Bool} {x' y' : Operand} (S : Sep F0 w0 L W) (p : Del L (aRow d e (A ++ x0 :: B) (.slice (some ⟨g, 0, none⟩) n cap) F) L1) (r : Del L1 (aOwn d x cs Fx) L') (hA : A.length = k) (ho : o.op = .store ty x' y') (hi : TyInf ty b m) (hm : m = d.sz) (hx : a.eval x' = .pointer (some ⟨g, q, none⟩)) (hq : q = k * m) (hy : (a.eval y').cells = cs.toArray) : ∃ F' w1, Sep F0 w0 (aRow d e (A ++ x :: B) (.slice (some ⟨g, 0, none⟩) n cap) F' :: L') w1 ∧ (execOp a.eval o).run Try.prog W = .ok .skip w1 := by
  subst hm
  subst hq
  have S2 : Sep F0 w0 ([aRow d e (A ++ x0 :: B) (.slice (some ⟨g, 0, none⟩) n cap) F, aOwn d x cs Fx] ++ L') W := ((S.pull p).pull (.tail _ r)).pull (.tail _ (.head _ _))
  have hrw := S2.ok (aRow d e (A ++ x0 :: B) (.slice (some ⟨g, 0, none⟩) n cap) F) (by simp)
  have hox := S2.ok (aOwn d x cs Fx) (by simp)
  have hltx := d.own_lt hox
  have hl : cs.length = d.sz := d.len (d.own_rd hox)
  have hone := d.one hox
  obtain ⟨hlen, inner, F2, hown, he, hF⟩ := hrw
  have hk : k < (A ++ x0 :: B).length := by simp; omega
  obtain ⟨c1, ck, c2, F1, Fk, F3, rfl, rfl, e1, e2, e3, e4, e5⟩ := he.at_ hk
  have hnd : (F ++ Fx).Nodup := by
    have := S2.nd
    rw [show fps ([aRow d e (A ++ x0 :: B) (.slice (some ⟨g, 0, none⟩) n cap) F, aOwn d x cs Fx] ++ L') = F ++ (Fx ++ fps L') from rfl, ← List.append_assoc] at this
    exact (List.nodup_append.1 this).1
  have hF2 : F = [g] ++ (F1 ++ (Fk ++ F3)) := by rw [hF]; rfl
  rcases hown.2 with ⟨hv, _⟩ | ⟨g', cap', cur, hv, _, hb, hcap, hmax, hcur, htake⟩
  · cases hv
  simp only [Value.slice.injEq, Option.some.injEq, Addr.mk.injEq] at hv
  obtain ⟨⟨rfl, _⟩, hn, rfl⟩ := hv
  have hki : k * d.sz + d.sz ≤ cur.size := by
    rw [hcur, ← Nat.succ_mul]
    exact Nat.mul_le_mul_right _ (by omega)
  have hbox : Box W g e cur := ⟨hb⟩
  obtain ⟨w1, b1, ch, hrun⟩ := run_bstore (P := Try.prog) (o := o) (a := a) hbox ty x' y' ho hx cs.toArray hy (by simpa using hl) hi.s hki (by simpa using hone) _ rfl
  have hne : g ∉ F1 ++ (Fk ++ F3) := by
    rw [hF2] at hnd
    have := (List.nodup_append.1 hnd).1
    exact (List.nodup_cons.1 this).1
  have hnx : ∀ q ∈ Fx, q ≠ g := by
    intro q hq e0
    subst e0
    exact (List.nodup_append.1 hnd).2.2 q (by rw [hF2]; simp) q hq rfl
  have hfar : ∀ q, q < W.heap.size → q ≠ g → w1.heap[q]? = W.heap[q]? := fun q hq hn => ch.block q hq (by simpa using hn)
  have hFlt : ∀ q ∈ F1 ++ (Fk ++ F3), q < W.heap.size := he.lt
  have h4 := e4.keep (w' := w1) fun q hq => hfar q (hFlt q (by simp [hq])) (fun e0 => hne (by subst e0; simp [hq]))
  have h5 := e5.keep (w' := w1) fun q hq => hfar q (hFlt q (by simp [hq])) (fun e0 => hne (by subst e0; simp [hq]))
  have hx1 : d.own w1 x cs Fx := d.keep hox fun q hq => hfar q (hltx q hq) (hnx q hq)
  have hel := Ty.elems.put hk h4 hx1 h5
  rw [set_mid hA] at hel
  have hlr : (A ++ x :: B).length = (A ++ x0 :: B).length := by simp
  refine ⟨[g] ++ (F1 ++ (Fx ++ F3)), w1, Sep.call [aRow d e (A ++ x0 :: B) (.slice (some ⟨g, 0, none⟩) n cap) F, aOwn d x cs Fx] S2 (Sep.one1 (a := aRow d e (A ++ x :: B) (.slice (some ⟨g, 0, none⟩) n cap) ([g] ++ (F1 ++ (Fx ++ F3)))) (ch.mono (fun q hq => by rw [List.mem_singleton.1 hq]; show g ∈ F ++ _; rw [hF2]; simp)) ?_ ?_ ?_), hrun⟩
  · refine ⟨by rw [hlr]; exact hlen, c1 ++ (cs ++ c2), F1 ++ (Fx ++ F3), ⟨?_, .inr ⟨g, cap, _, by rw [hlr, hn], Nat.zero_le _, b1.blk, by rw [hlr]; exact hcap, hmax, ?_, ?_⟩⟩, hel, rfl⟩
    · have := hown.1
      rw [hlr, ← this]
      simp [hl, e2]
    · simp
      omega
    · have hN := hown.1
      rw [hlr]
      exact splice htake hN e1 e2 hl
  · intro q hq
    left
    show q ∈ F ++ (Fx ++ [])
    rw [hF2]
    rcases List.mem_append.1 hq with hq | hq
    · exact List.mem_append_left _ (List.mem_append_left _ hq)
    · rcases List.mem_append.1 hq with hq | hq
      · exact List.mem_append_left _ (List.mem_append_right _ (List.mem_append_left _ hq))
      · rcases List.mem_append.1 hq with hq | hq
        · exact List.mem_append_right _ (List.mem_append_left _ hq)
        · exact List.mem_append_left _ (List.mem_append_right _ (List.mem_append_right _ (List.mem_append_right _ hq)))
  · show ([g] ++ (F1 ++ (Fx ++ F3))).Nodup
    rw [hF2] at hnd
    have hsub : (([g] ++ (F1 ++ F3)) ++ Fx).Nodup := by
      refine List.Sublist.nodup (List.Sublist.append (List.Sublist.append (List.Sublist.refl _) (List.Sublist.append (List.Sublist.refl _) (List.sublist_append_right _ _))) (List.Sublist.refl _)) hnd
    refine (List.Perm.nodup_iff ?_).1 hsub
    simp only [List.append_assoc]
    refine List.Perm.append_left _ (List.Perm.append_left _ ?_)
    exact List.perm_append_comm
theorem aEl {A B : List α} {x0 x : α} {cs : List Value} {F Fx : List Nat} {e ty n cap g k m q : Nat} {b : Bool} {x' y' : Operand} (S : Sep F0 w0 L W) (p : Del L (aRow d e (A ++ x0 :: B) (.slice (some ⟨g, 0, none⟩) n cap) F) L1) (r : Del L1 (aOwn d x cs Fx) L') (hA : A.length = k) (h : ∀ (F' : List Nat) w1, Sep F0 w0 (aRow d e (A ++ x :: B) (.slice (some ⟨g, 0, none⟩) n cap) F' :: L') w1 → wpList Try.prog ops Q rest (a.put o.dst undef) w1) (hw : Region.wanted o (yielded ops a.tmps) = true := by exact rfl) (ho : o.op = .store ty x' y' := by exact rfl) (hi : TyInf ty b m := by exact inferInstance) (hm : m = d.sz := by exact rfl) (hx : a.eval x' = .pointer (some ⟨g, q, none⟩) := by exact rfl) (hq : q = k * m := by first | exact rfl | assumption) (hy : (a.eval y').cells = cs.toArray := by exact rfl) : wpList Try.prog ops Q (o :: rest) a W := by
  obtain ⟨F', w1, S1, hr⟩ := run_el (o := o) (a := a) S p r hA ho hi hm hx hq hy
  exact wpList_of_skip hw hr (h F' w1 S1)
theorem rgEl {A B : List α} {x0 x : α} {cs : List Value} {F Fx : List Nat} {e ty n cap g k m q : Nat} {b : Bool} {x' y' : Operand} (S : Sep F0 w0 L W) (p : Del L (aRow d e (A ++ x0 :: B) (.slice (some ⟨g, 0, none⟩) n cap) F) L1) (r : Del L1 (aOwn d x cs Fx) L') (hA : A.length = k) (h : ∀ (F' : List Nat) w1, Sep F0 w0 (aRow d e (A ++ x :: B) (.slice (some ⟨g, 0, none⟩) n cap) F' :: L') w1 → K (a.put o.dst undef) w1) (hw : Region.wanted o (yielded ops a.tmps) = true := by exact rfl) (ho : o.op = .store ty x' y' := by exact rfl) (hi : TyInf ty b m := by exact inferInstance) (hm : m = d.sz := by exact rfl) (hx : a.eval x' = .pointer (some ⟨g, q, none⟩) := by exact rfl) (hq : q = k * m := by first | exact rfl | assumption) (hy : (a.eval y').cells = cs.toArray := by exact rfl) : if Region.wanted o (yielded ops a.tmps) = true then Oper.wp Try.prog o a W K Q else K (a.put o.dst undef) W := by
  obtain ⟨F', w1, S1, hr⟩ := run_el (o := o) (a := a) S p r hA ho hi hm hx hq hy
  exact step_of_skip hw hr (h F' w1 S1)
end
end Go.Proofs.Ytapdcgjccckjeaa
namespace Go.Proofs.Ytapdcgjccckjeaa
set_option maxRecDepth 100000
set_option linter.unusedVariables false
set_option linter.unusedSimpArgs false
open Go.RowKit
theorem Sep.rowNd {α : Type} {d : Ty α} {F0 : List Nat} {w0 w : World} {L : List Asrt} {e : Nat} {xs : List α} {v : Value} {F : List Nat} (S : Sep F0 w0 L w) (h : aRow d e xs v F ∈ L) : F.Nodup := S.nodup h
/-- An own row whose element between A and B (of the cells cs) is lent out with all that it owns. -/
def aRest {α : Type} (d : Ty α) (e : Nat) (A B : List α) (cs : List Value) (v : Value) (F1 F3 : List Nat) : Asrt where
  fp := v.ownBlock.toList ++ (F1 ++ F3)
  ok := fun w => (A.length + (1 + B.length) ≤ 2097152) ∧ cs.length = d.sz ∧ ∃ c1 c2, w.ownsRow 0 e d.sz v (A.length + (1 + B.length)) (c1 ++ (cs ++ c2)) ∧ d.elems w A c1 F1 ∧ d.elems w B c2 F3
  lt := by
    rintro w ⟨_, _, c1, c2, h1, h2, h3⟩ g hg
    rcases List.mem_append.1 hg with hg | hg
    · exact (h1.lt g (by simpa using hg)).2
    rcases List.mem_append.1 hg with hg | hg
    · exact h2.lt g hg
    · exact h3.lt g hg
  keep := by
    rintro w w' ⟨h0, h9, c1, c2, h1, h2, h3⟩ hk
    exact ⟨h0, h9, c1, c2, own_keep' h1 (fun k hk' => hk k (by simp [hk'])), h2.keep (fun g hg => hk g (List.mem_append_right _ (List.mem_append_left _ hg))), h3.keep (fun g hg => hk g (List.mem_append_right _ (List.mem_append_right _ hg)))⟩
section
variable {α : Type} {d : Ty α} {w w0 : World} {F0 : List Nat} {L : List Asrt} {e : Nat} {A B : List α} {x : α} {cs : List Value} {v : Value} {F F1 Fx F3 : List Nat}
theorem Sep.lend (S : Sep F0 w0 (aRow d e (A ++ x :: B) v F :: L) w) : ∃ cs F1 Fx F3, F = v.ownBlock.toList ++ (F1 ++ (Fx ++ F3)) ∧ Sep F0 w0 (aOwn d x cs Fx :: aRest d e A B cs v F1 F3 :: L) w := by
  have ho := S.ok (aRow d e (A ++ x :: B) v F) (by simp)
  obtain ⟨hlen, inner, F2, hown, he, hF⟩ := ho
  obtain ⟨c1, c2, F1, F', rfl, rfl, h1, h2⟩ := he.split
  obtain ⟨ck, c3, Fx, F3, rfl, rfl, h3, h4⟩ := h2
  refine ⟨ck, F1, Fx, F3, hF, ?_⟩
  refine S.convP [aOwn d x ck Fx, aRest d e A B ck v F1 F3] ?_ ?_
  · show (Fx ++ ((v.ownBlock.toList ++ (F1 ++ F3)) ++ [])).Perm F
    rw [hF, List.append_nil]
    refine List.perm_append_comm.trans ?_
    simp only [List.append_assoc]
    refine List.Perm.append_left _ (List.Perm.append_left _ ?_)
    exact List.perm_append_comm
  · intro b hb
    rcases List.mem_cons.1 hb with rfl | hb
    · exact h3
    · rw [List.mem_singleton.1 hb]
      have hl : (A ++ x :: B).length = A.length + (1 + B.length) := by simp; omega
      rw [hl] at hlen hown
      exact ⟨hlen, d.len (d.own_rd h3), c1, c3, hown, h1, h4⟩
theorem Sep.back (S : Sep F0 w0 (aOwn d x cs Fx :: aRest d e A B cs v F1 F3 :: L) w) : Sep F0 w0 (aRow d e (A ++ x :: B) v (v.ownBlock.toList ++ (F1 ++ (Fx ++ F3))) :: L) w := by
  refine Sep.joinP [aOwn d x cs Fx, aRest d e A B cs v F1 F3] S _ (Fx ++ (v.ownBlock.toList ++ (F1 ++ F3))) ?_ ?_ ?_
  · show (Fx ++ (v.ownBlock.toList ++ (F1 ++ F3))).Perm (v.ownBlock.toList ++ (F1 ++ (Fx ++ F3)))
    refine List.perm_append_comm.trans ?_
    simp only [List.append_assoc]
    refine List.Perm.append_left _ (List.Perm.append_left _ ?_)
    exact List.perm_append_comm
  · show (Fx ++ (v.ownBlock.toList ++ (F1 ++ F3))).Sublist (Fx ++ ((v.ownBlock.toList ++ (F1 ++ F3)) ++ []))
    rw [List.append_nil]
    exact List.Sublist.refl _
  · intro h
    have h1 := h (aOwn d x cs Fx) (by simp)
    obtain ⟨hlen, hcs, c1, c2, hown, ha, hb⟩ := h (aRest d e A B cs v F1 F3) (by simp)
    have hl : (A ++ x :: B).length = A.length + (1 + B.length) := by simp; omega
    refine ⟨by rw [hl]; exact hlen, c1 ++ (cs ++ c2), F1 ++ (Fx ++ F3), by rw [hl]; exact hown, ha.append ⟨cs, c2, Fx, F3, rfl, rfl, h1, hb⟩, rfl⟩
/-- The lent element's cells stand in the row. -/
theorem Sep.restAt {g n cap k : Nat} (S : Sep F0 w0 L w) (hm : aRest d e A B cs (.slice (some ⟨g, 0, none⟩) n cap) F1 F3 ∈ L) (hk : A.length = k) : CellsAt w ⟨g, k * d.sz, none⟩ cs := by
  obtain ⟨hlen, hcs, c1, c2, hown, ha, hb⟩ := S.ok _ hm
  refine ⟨fun j hj => ?_⟩
  have h1 : c1.length = k * d.sz := by rw [ha.len, hk]
  have := hown.cells (g := g) rfl (k * d.sz + j) cs[j] (by rw [List.getElem?_append_right (by omega), h1, Nat.add_sub_cancel_left, List.getElem?_append_left hj, List.getElem?_eq_getElem hj])
  rw [addr_add] at this
  rw [List.getElem?_eq_getElem hj, ← this]
  congr 1
  have := addr_add_add ⟨g, 0, none⟩ (k * d.sz) j
  rw [addr_add, addr_add] at this
  exact this
end
end Go.Proofs.Ytapdcgjccckjeaa
namespace Go.Proofs.Ytapdcgjccckjeaa
set_option maxRecDepth 100000
set_option linter.unusedVariables false
set_option linter.unusedSimpArgs false
open Go.RowKit
def cntStS : List St → Nat
  | [] => 0
  | s :: ss => cntSt s + cntStS ss
def cntMStS : List St → Nat
  | [] => 0
  | s :: ss => 3 + cntMSt s + cntMStS ss
theorem cntStS_append : ∀ (a b : List St), cntStS (a ++ b) = cntStS a + cntStS b
  | [], b => by simp [cntStS]
  | s :: a, b => by simp [cntStS, cntStS_append a b]; omega
theorem cntMStS_append : ∀ (a b : List St), cntMStS (a ++ b) = cntMStS a + cntMStS b
  | [], b => by simp [cntMStS]
  | s :: a, b => by simp [cntMStS, cntMStS_append a b]; omega
theorem cntStS_take (xs : List St) (k : Nat) (h : k < xs.length) : cntStS (xs.take (k + 1)) = cntStS (xs.take k) + cntSt xs[k] := by
  rw [List.take_succ_eq_append_getElem h, cntStS_append]
  simp [cntStS]
theorem cntMStS_take (xs : List St) (k : Nat) (h : k < xs.length) : cntMStS (xs.take (k + 1)) = cntMStS (xs.take k) + (3 + cntMSt xs[k]) := by
  rw [List.take_succ_eq_append_getElem h, cntMStS_append]
  simp [cntMStS]
theorem cntStS_le (xs : List St) (k : Nat) : cntStS (xs.take k) ≤ cntStS xs := by
  conv => rhs; rw [← List.take_append_drop k xs, cntStS_append]
  omega
theorem cntMStS_le (xs : List St) (k : Nat) : cntMStS (xs.take k) ≤ cntMStS xs := by
  conv => rhs; rw [← List.take_append_drop k xs, cntMStS_append]
  omega
theorem cntMSt_le {s : St} : cntMSt s ≤ 7 * cntSt s := by
  unfold cntSt cntMSt
  omega
theorem cntMStS_bd : ∀ (xs : List St), cntMStS xs ≤ 3 * xs.length + 7 * cntStS xs
  | [] => by simp [cntMStS]
  | s :: ss => by
    have := cntMStS_bd ss
    have := cntMSt_le (s := s)
    simp only [cntMStS, cntStS, List.length_cons]
    omega
theorem cntStS_get (xs : List St) (k : Nat) (h : k < xs.length) : cntSt xs[k] ≤ cntStS xs := by
  have h1 := cntStS_take xs k h
  have h2 := cntStS_le xs (k + 1)
  omega
/-- The marks of an element: its numbers, then its slices. -/
def markS1 (q : Int) (s : St) : St := { markSt (q + 3) s with way := q, vsn := q + 1, want := q + 2 }
def marksS : Int → List St → List St
  | _, [] => []
  | q, s :: ss => markS1 q s :: marksS (q + (3 + cntMSt s : Nat)) ss
theorem marksS_len : ∀ (q : Int) (xs : List St), (marksS q xs).length = xs.length
  | _, [] => rfl
  | q, s :: ss => by simp [marksS, marksS_len _ ss]
theorem marksS_append : ∀ (q : Int) (a b : List St), marksS q (a ++ b) = marksS q a ++ marksS (q + cntMStS a) b
  | q, [], b => by simp [marksS, cntMStS]
  | q, s :: a, b => by
    simp only [List.cons_append, marksS, marksS_append _ a b, cntMStS]
    congr 3
    omega
theorem marksS_take (q : Int) (xs : List St) (k : Nat) (h : k < xs.length) : marksS q (xs.take (k + 1)) = marksS q (xs.take k) ++ [markS1 (q + cntMStS (xs.take k)) xs[k]] := by
  rw [List.take_succ_eq_append_getElem h, marksS_append]
  simp [marksS]
theorem marksS_get (q : Int) (xs : List St) (k : Nat) (h : k < xs.length) : (marksS q xs)[k]'(by rw [marksS_len]; exact h) = markS1 (q + cntMStS (xs.take k)) xs[k] := by
  have e : marksS q xs = marksS q (xs.take k) ++ (markS1 (q + cntMStS (xs.take k)) xs[k] :: marksS (q + cntMStS (xs.take k) + (3 + cntMSt xs[k] : Nat)) (xs.drop (k + 1))) := by
    conv => lhs; rw [← List.take_append_drop k xs, marksS_append, List.drop_eq_getElem_cons h]
    rfl
  simp only [e]
  rw [List.getElem_append_right (by rw [marksS_len]; simp; omega)]
  have : k - (marksS q (List.take k xs)).length = 0 := by rw [marksS_len]; simp; omega
  simp [this]
set_option maxRecDepth 100000 in
set_option maxHeartbeats 1600000 in
theorem eqStateS_c (w : World) (v u : Value) (xs : List St) (h1 : tSt.row w v xs) (h2 : tSt.row w u xs) : Calls Try.prog 71 #[v, u] w (Ret (.bool true) w) := by
  obtain ⟨A1, c1, rfl⟩ := h1.val
  obtain ⟨A2, c2, rfl⟩ := h2.val
  have hm := h1.le
  have S := Sep.start w
  go_enter Try.func71, Try.ntmps71
  go_wp2
  go_loopw [5] (fun i wr => ∃ k : Nat, k ≤ xs.length ∧ i = .int .i64 k ∧ Sep [] w [] wr) (fun i _ => xs.length - (intOf i).toNat)
  case atStart => exact ⟨0, Nat.zero_le _, rfl, S⟩
  case round =>
    clear S
    obtain ⟨k, hk, rfl, S⟩ := hrel
    by_cases hlt : k < xs.length
    · obtain ⟨ad1, cs1, rfl, r1, g1⟩ := cellsAt_of_row h1 k hlt
      obtain ⟨ad2, cs2, rfl, r2, g2⟩ := cellsAt_of_row h2 k hlt
      have G1 := Lib.hid (fun (W : World) (f : Fr w W) => g1.fr f)
      have G2 := Lib.hid (fun (W : World) (f : Fr w W) => g2.fr f)
      have R1 := Lib.hid (fun (W : World) (f : Fr w W) => tSt.fr f r1)
      have R2 := Lib.hid (fun (W : World) (f : Fr w W) => tSt.fr f r2)
      have N1 := Lib.hid (tSt.len r1)
      have N2 := Lib.hid (tSt.len r2)
      clear g1 g2 r1 r2
      have p0 : (0 : Int) ≤ (k : Int) := Int.natCast_nonneg _
      have p1 : (k : Int) < (xs.length : Int) := by omega
      go_wp2
      have S0 := S
      refine wp_region_noPanic ?_
      refine wp_region_held_drew (S := Sep _ _ _) (by kernel_rfl) S0.drew (fun _ => ?_)
      replace S := S.drew
      clear S0
      refine tk 0 ?_
      (try simp only [Act.put, List.setIfInBounds_toArray, List.set_cons_zero, List.set_cons_succ])
      refine tk 1 ?_
      (try simp only [Act.put, List.setIfInBounds_toArray, List.set_cons_zero, List.set_cons_succ])
      refine tk 2 ?_
      (try simp only [Act.put, List.setIfInBounds_toArray, List.set_cons_zero, List.set_cons_succ])
      refine tk 3 ?_ (hy := by exact yRw (fun w' h => G1.out _ h.frame) (hn := N1.out))
      (try simp only [Act.put, List.setIfInBounds_toArray, List.set_cons_zero, List.set_cons_succ])
      refine tk 4 ?_
      (try simp only [Act.put, List.setIfInBounds_toArray, List.set_cons_zero, List.set_cons_succ])
      refine tk 5 ?_
      (try simp only [Act.put, List.setIfInBounds_toArray, List.set_cons_zero, List.set_cons_succ])
      refine tk 6 ?_
      (try simp only [Act.put, List.setIfInBounds_toArray, List.set_cons_zero, List.set_cons_succ])
      refine tk 7 ?_ (hy := by exact yRw (fun w' h => G2.out _ h.frame) (hn := N2.out))
      (try simp only [Act.put, List.setIfInBounds_toArray, List.set_cons_zero, List.set_cons_succ])
      refine rdy1 8 (fun K hK => ?_)
      go_simp; (skip; go_at_call 43; (with_reducible refine (eqState_c _ xs[k] _ _ (R1.out _ S.frame) (R2.out _ S.frame)).mono ?_); rintro e w9 ⟨rfl, f9⟩; replace S := S.fr f9; clear f9)
      (first | refine hK.out _ _ (S.sub subA) (fun _ => ?_) | (go_wp2_with fail; refine hK.out _ _ (S.sub subA) (fun _ => ?_)))
      clear hK K
      (try simp only [Act.put, List.setIfInBounds_toArray, List.set_cons_zero, List.set_cons_succ])
      refine tk 9 ?_
      (try simp only [Act.put, List.setIfInBounds_toArray, List.set_cons_zero, List.set_cons_succ])
      refine wpAnyH_done (by kernel_rfl) ?_ _
      refine NoPanic.normal ?_
      go_wp2
      go_roundw
      case rel => exact ⟨k + 1, by omega, by go_num, S⟩
      case measure => simp [intOf]; omega
    · go_wp2
      go_ret
      exact ⟨rfl, S.frame⟩
set_option maxRecDepth 100000 in
set_option maxHeartbeats 1600000 in
theorem szStateS_c (w : World) (v : Value) (xs : List St) (left : Int) (h1 : tSt.row w v xs) (hl0 : 0 ≤ left) (hl1 : left ≤ 1048576) :
    Calls Try.prog 85 #[v, .int .i64 left] w (Ret (.int .i64 (szr left (xs.length + cntStS xs))) w) := by
  obtain ⟨A1, c1, rfl⟩ := h1.val
  have hm := h1.le
  have S := Sep.start w
  by_cases e0 : (xs.length : Int) ≤ left
  case neg =>
    have e : szr left (xs.length + cntStS xs) = -1 := szr_no (by omega)
    rw [e]
    clear e
    go_enter Try.func85, Try.ntmps85
    go_wp2
    go_ret
    exact ⟨rfl, S.frame⟩
  have pw : IntKind.i64.wrap (left - (xs.length : Int)) = left - (xs.length : Int) := IntWalk.i64_in _ (by omega)
  have t0 : decide (left - (xs.length : Int) < 0) = false := decide_eq_false (by omega)
  go_enter Try.func85, Try.ntmps85
  go_wp2
  go_loopw [1, 5] (fun l i wr => ∃ k : Nat, k ≤ xs.length ∧ i = .int .i64 k ∧ l = .int .i64 (left - xs.length - cntStS (xs.take k)) ∧ (xs.length + cntStS (xs.take k) : Int) ≤ left ∧ Sep [] w [] wr) (fun _ i _ => xs.length - (intOf i).toNat)
  case atStart => exact ⟨0, Nat.zero_le _, rfl, by simp [cntStS], by simpa [cntStS] using e0, S⟩
  case round =>
    clear S pw t0
    obtain ⟨k, hk, rfl, rfl, hle, S⟩ := hrel
    by_cases hlt : k < xs.length
    · obtain ⟨ad1, cs1, rfl, r1, g1⟩ := cellsAt_of_row h1 k hlt
      have N1 := Lib.hid (tSt.len r1)
      have TK := Lib.hid (cntStS_take xs k hlt)
      have LE := Lib.hid (cntStS_le xs (k + 1))
      have p0 : (0 : Int) ≤ (k : Int) := Int.natCast_nonneg _
      have p1 : (k : Int) < (xs.length : Int) := by omega
      have G1 := Lib.hid (fun (W : World) (f : Fr w W) => g1.fr f)
      have R1 := Lib.hid (fun (W : World) (f : Fr w W) => tSt.fr f r1)
      clear g1 r1
      by_cases e1 : (cntSt xs[k] : Int) ≤ left - xs.length - cntStS (xs.take k)
      · have s1 := Lib.hid (szr_yes e1)
        have t1 : decide (left - (xs.length : Int) - (cntStS (xs.take k) : Int) - (cntSt xs[k] : Int) < 0) = false := decide_eq_false (by omega)
        go_wp2_with (first
          | ((with_reducible refine gate_dst (N := 21) rfl ?_); refine aRw (G1.out _ S.frame) ?_ (hn := N1.out))
          | (go_at_call 50; (with_reducible refine (szState_c _ xs[k] _ (left - (xs.length : Int) - (cntStS (xs.take k) : Int)) (R1.out _ S.frame) (by omega) (by omega)).mono ?_); rintro e w9 ⟨rfl, f9⟩; rw [s1.out]; replace S := S.fr f9; clear f9))
        go_roundw
        case rel => exact ⟨k + 1, by omega, by go_num, by rw [TK.out]; congr 1; omega, by rw [TK.out]; omega, S⟩
        case measure => simp [intOf]; omega
      · have s1 := Lib.hid (szr_no e1)
        have e : szr left (xs.length + cntStS xs) = -1 := szr_no (by have := TK.out; have := LE.out; omega)
        have E := Lib.hid e
        clear e
        go_wp2_with (first
          | ((with_reducible refine gate_dst (N := 21) rfl ?_); refine aRw (G1.out _ S.frame) ?_ (hn := N1.out))
          | (go_at_call 50; (with_reducible refine (szState_c _ xs[k] _ (left - (xs.length : Int) - (cntStS (xs.take k) : Int)) (R1.out _ S.frame) (by omega) (by omega)).mono ?_); rintro e w9 ⟨rfl, f9⟩; rw [s1.out]; replace S := S.fr f9; clear f9))
        go_ret
        exact ⟨ret_int E.out.symm, S.frame⟩
    · obtain rfl : k = xs.length := by omega
      rw [List.take_length] at hle ⊢
      have e : szr left (xs.length + cntStS xs) = left - xs.length - cntStS xs := by rw [szr_yes (by omega)]; omega
      have E := Lib.hid e
      clear e
      go_wp2
      go_ret
      exact ⟨ret_int E.out.symm, S.frame⟩
def zStS : St := ⟨0, 0, 0, [], [], [], []⟩
theorem zStS_own (w : World) : tSt.own w zStS [.int .i64 0, .int .i64 0, .int .i64 0, .slice none 0 0, .slice none 0 0, .slice none 0 0, .slice none 0 0] [] :=
  ⟨.slice none 0 0, .slice none 0 0, .slice none 0 0, .slice none 0 0, [], [], [], [], rfl, rfl, Ty.orow.nil _ _ _, Ty.orow.nil _ _ _, Ty.orow.nil _ _ _, Ty.orow.nil _ _ _, by unfold I64; simp [zStS]⟩
theorem take_rep {α : Type} (xs : List α) (z : α) (k : Nat) (h : k < xs.length) : xs.take k ++ List.replicate (xs.length - k) z = xs.take k ++ z :: List.replicate (xs.length - (k + 1)) z := by
  rw [show xs.length - k = (xs.length - (k + 1)) + 1 from by omega, List.replicate_succ]
theorem take_rep1 {α : Type} (xs : List α) (z : α) (k : Nat) (h : k < xs.length) : xs.take k ++ xs[k] :: List.replicate (xs.length - (k + 1)) z = xs.take (k + 1) ++ List.replicate (xs.length - (k + 1)) z := by
  rw [List.take_succ_eq_append_getElem h, List.append_assoc]
  rfl
set_option maxHeartbeats 1600000 in
theorem toStateS_c (w : World) (v : Value) (xs : List St) (h1 : tSt.row w v xs) (hm : xs.length ≤ 1048576) (hc : cntStS xs ≤ 1048576) : Calls Try.prog 90 #[v] w (RetRow tSt 30 xs w) := by
  obtain ⟨A1, c1, rfl⟩ := h1.val
  have S := Sep.start w
  go_enter Try.func90, Try.ntmps90
  go_wp2_with (first
    | ((with_reducible refine gate_dst (N := 7) rfl ?_); refine aMk (d := tSt) zStS S zStS_own (Nat.le_trans hm (by decide)) ?_; clear S; intro g7 w9 z9 S))
  go_loopw [4] (fun i wr => ∃ (k : Nat) (F : List Nat), k ≤ xs.length ∧ i = .int .i64 k ∧ Sep [] w [aRow tSt 30 (xs.take k ++ List.replicate (xs.length - k) zStS) (.slice (some ⟨g7, 0, none⟩) xs.length xs.length) F] wr) (fun i _ => xs.length - (intOf i).toNat)
  case atStart => exact ⟨0, _, Nat.zero_le _, rfl, by simpa using S⟩
  case round =>
    clear S
    obtain ⟨k, F, hk, rfl, S⟩ := hrel
    by_cases hlt : k < xs.length
    · obtain ⟨ad1, cs1, rfl, r1, g1⟩ := cellsAt_of_row h1 k hlt
      have N1 := Lib.hid (tSt.len r1)
      have G1 := Lib.hid (fun (W : World) (f : Fr w W) => g1.fr f)
      have R1 := Lib.hid (fun (W : World) (f : Fr w W) => tSt.fr f r1)
      have CN := Lib.hid (Nat.le_trans (cntStS_get xs k hlt) hc)
      have T0 := Lib.hid (show (xs.take k).length = k by simp; omega)
      have TR := Lib.hid (take_rep1 xs zStS k hlt)
      rw [take_rep xs zStS k hlt] at S
      clear g1 r1
      have p0 : (0 : Int) ≤ (k : Int) := Int.natCast_nonneg _
      have p1 : (k : Int) < (xs.length : Int) := by omega
      go_wp2_with (first
        | ((with_reducible refine gate_dst (N := 19) rfl ?_); refine aRw (G1.out _ S.frame) ?_ (hn := N1.out))
        | (go_at_call 52; (with_reducible refine (toState_c _ xs[k] _ (R1.out _ S.frame) CN.out).mono ?_); rintro e w9 ⟨cs9, F9, rfl, h9, n9, b9, f9⟩; replace S := S.new (aOwn tSt _ cs9 F9) h9 n9 b9 f9; clear h9 n9 b9 f9)
        | ((with_reducible refine gate_st rfl ?_); refine aEl S delA delA T0.out ?_; clear S; intro F9 w9 S))
      rw [TR.out] at S
      go_roundw
      case rel => exact ⟨k + 1, _, by omega, by go_num, S⟩
      case measure => simp [intOf]; omega
    · obtain rfl : k = xs.length := by omega
      rw [List.take_length, Nat.sub_self, List.replicate_zero, List.append_nil] at S
      go_wp2
      go_ret
      exact S.retRow List.mem_cons_self
end Go.Proofs.Ytapdcgjccckjeaa
namespace Go.Proofs.Ytapdcgjccckjeaa
set_option maxRecDepth 100000
set_option linter.unusedVariables false
set_option linter.unusedSimpArgs false
open Go.RowKit
section
variable {F0 : List Nat} {w0 w : World} {L : List Asrt} {e : Nat} {A B : List St} {a b c : Int} {ps : List Pk} {bs ds : List Bool} {gs : List Int} {v : Value} {F : List Nat}
theorem Sep.lendSt (S : Sep F0 w0 (aRow tSt e (A ++ ⟨a, b, c, ps, bs, ds, gs⟩ :: B) v F :: L) w) : ∃ A1 c1 A2 c2 A3 c3 A4 c4 G1 G2 G3 G4 F1 F3, F = v.ownBlock.toList ++ (F1 ++ ((G1 ++ (G2 ++ (G3 ++ G4))) ++ F3)) ∧ (I64 a ∧ I64 b ∧ I64 c) ∧
    Sep F0 w0 (aRow tPk 88 ps (.slice A1 ps.length c1) G1 :: aRow tBool 4 bs (.slice A2 bs.length c2) G2 :: aRow tBool 4 ds (.slice A3 ds.length c3) G3 :: aRow tInt 3 gs (.slice A4 gs.length c4) G4 :: aRest tSt e A B [.int .i64 a, .int .i64 b, .int .i64 c, .slice A1 ps.length c1, .slice A2 bs.length c2, .slice A3 ds.length c3, .slice A4 gs.length c4] v F1 F3 :: L) w := by
  obtain ⟨cs, F1, Fx, F3, hF, S⟩ := S.lend
  obtain ⟨A1, c1, A2, c2, A3, c3, A4, c4, G1, G2, G3, G4, rfl, rfl, hI, S⟩ := S.openSt
  exact ⟨A1, c1, A2, c2, A3, c3, A4, c4, G1, G2, G3, G4, F1, F3, hF, hI, S⟩
theorem Sep.backSt {v1 v2 v3 v4 : Value} {G1 G2 G3 G4 F1 F3 : List Nat} (S : Sep F0 w0 (aRow tPk 88 ps v1 G1 :: aRow tBool 4 bs v2 G2 :: aRow tBool 4 ds v3 G3 :: aRow tInt 3 gs v4 G4 :: aRest tSt e A B [.int .i64 a, .int .i64 b, .int .i64 c, v1, v2, v3, v4] v F1 F3 :: L) w) (hI : I64 a ∧ I64 b ∧ I64 c) :
    Sep F0 w0 (aRow tSt e (A ++ ⟨a, b, c, ps, bs, ds, gs⟩ :: B) v (v.ownBlock.toList ++ (F1 ++ ((G1 ++ (G2 ++ (G3 ++ G4))) ++ F3))) :: L) w := (S.shutSt hI).back
end
theorem st_set {x0 x1 : St} {j : Nat} {u : Value} (h : ∀ v1 v2 v3 v4 : Value, [Value.int .i64 x0.way, .int .i64 x0.vsn, .int .i64 x0.want, v1, v2, v3, v4].set j u = [.int .i64 x1.way, .int .i64 x1.vsn, .int .i64 x1.want, v1, v2, v3, v4]) (e1 : x1.sent = x0.sent) (e2 : x1.live = x0.live) (e3 : x1.back = x0.back) (e4 : x1.got = x0.got) (ho : I64 x0.way ∧ I64 x0.vsn ∧ I64 x0.want → I64 x1.way ∧ I64 x1.vsn ∧ I64 x1.want) : ∀ (w : World) (cs : List Value) (G : List Nat), tSt.own w x0 cs G → tSt.own w x1 (cs.set j u) G := by
  rintro w cs G ⟨v1, v2, v3, v4, F1, F2, F3, F4, rfl, rfl, h1, h2, h3, h4, h5⟩
  exact ⟨v1, v2, v3, v4, F1, F2, F3, F4, h _ _ _ _, rfl, by rw [e1]; exact h1, by rw [e2]; exact h2, by rw [e3]; exact h3, by rw [e4]; exact h4, ho h5⟩
theorem markS1_eq (q : Int) (x : St) : markS1 q x = ⟨q, q + 1, q + 1 + 1, marksP (q + 1 + 1 + 1) x.sent.length, marksB (q + 1 + 1 + 1 + 7 * x.sent.length) x.live.length, marksB (q + 1 + 1 + 1 + 7 * x.sent.length + x.live.length) x.back.length, marksI (q + 1 + 1 + 1 + 7 * x.sent.length + x.live.length + x.back.length) x.got.length⟩ := by
  have e2 : q + 1 + 1 = q + 2 := by omega
  have e3 : q + 1 + 1 + 1 = q + 3 := by omega
  rw [e3, e2]
  rfl
set_option maxHeartbeats 3200000 in
theorem markStateS_c (w : World) (v : Value) (xs : List St) (F : List Nat) (q : Int) (h1 : tSt.orow 30 w v xs F) (hn : F.Nodup) (hq0 : 0 ≤ q) (hq1 : q ≤ 1000000000000000) (hc : cntMStS xs ≤ 1000000000) :
    Calls Try.prog 74 #[v, .int .i64 q] w (RetMkRow tSt 30 (q + cntMStS xs) (marksS q xs) v F w) := by
  obtain ⟨A1, c1, rfl⟩ := h1.row.val
  have hm := h1.le
  have S := Sep.startRow h1 hn
  go_enter Try.func74, Try.ntmps74
  go_wp2
  go_loopw [1, 5] (fun q' i wr => ∃ k : Nat, k ≤ xs.length ∧ i = .int .i64 k ∧ q' = .int .i64 (q + cntMStS (xs.take k)) ∧ Sep F w [aRow tSt 30 (marksS q (xs.take k) ++ xs.drop k) (.slice A1 xs.length c1) F] wr) (fun _ i _ => xs.length - (intOf i).toNat)
  case atStart => exact ⟨0, Nat.zero_le _, rfl, by simp [cntMStS], by simpa [marksS] using S⟩
  case round =>
    clear S h1
    obtain ⟨k, hk, rfl, rfl, S⟩ := hrel
    by_cases hlt : k < xs.length
    · obtain ⟨x, hx⟩ : ∃ x, xs[k] = x := ⟨_, rfl⟩
      have hd : xs.drop k = x :: xs.drop (k + 1) := by rw [← hx]; exact List.drop_eq_getElem_cons hlt
      rw [hd] at S
      obtain ⟨gg, cap', e'⟩ := (S.row (d := tSt) (F := F) (xs := marksS q (xs.take k) ++ x :: xs.drop (k + 1)) memA).shape (by rw [List.length_append, List.length_cons]; omega)
      simp only [Value.slice.injEq] at e'
      obtain ⟨rfl, hlx, rfl⟩ := e'
      clear hlx
      have hA := Lib.hid (show (marksS q (xs.take k)).length = k by rw [marksS_len]; simp; omega)
      have MT := Lib.hid (cntMStS_take xs k hlt)
      have ML := Lib.hid (cntMStS_le xs k)
      have TK := Lib.hid (marksS_take q xs k hlt)
      have HX := Lib.hid hx
      obtain ⟨qk, hqk⟩ : ∃ qk, q + (cntMStS (xs.take k) : Int) = qk := ⟨_, rfl⟩
      have HQ := Lib.hid hqk
      have q0 : 0 ≤ qk := by omega
      have q1 : qk ≤ 2000000000000000 := by have := ML.out; omega
      rw [hqk]
      clear hx hd hqk
      have p1 : (k : Int) < (xs.length : Int) := by omega
      go_wp2_with (first
        | ((with_reducible refine gate_store (p := 16) rfl ?_); refine wpList_sfield (d := tSt) (k := k) (j := 0) (x0 := (⟨x.way, x.vsn, x.want, x.sent, x.live, x.back, x.got⟩ : St)) (x1 := (⟨qk, x.vsn, x.want, x.sent, x.live, x.back, x.got⟩ : St)) S (by rfl) 3 _ _ rfl rfl (.int .i64 _) rfl rfl ts3 memA hA.out (by first | rfl | simp [tSt]) (by decide) (st_set (fun _ _ _ _ => rfl) rfl rfl rfl rfl (fun h => by unfold I64 at h ⊢; simp only at h ⊢; omega)) putA ?_; clear S; intro w9 S)
        | ((with_reducible refine gate_store (p := 23) rfl ?_); refine wpList_sfield (d := tSt) (k := k) (j := 1) (x0 := (⟨qk, x.vsn, x.want, x.sent, x.live, x.back, x.got⟩ : St)) (x1 := (⟨qk, qk + 1, x.want, x.sent, x.live, x.back, x.got⟩ : St)) S (by rfl) 3 _ _ rfl rfl (.int .i64 _) rfl rfl ts3 memA hA.out (by first | rfl | simp [tSt]) (by decide) (st_set (fun _ _ _ _ => rfl) rfl rfl rfl rfl (fun h => by unfold I64 at h ⊢; simp only at h ⊢; omega)) putA ?_; clear S; intro w9 S)
        | ((with_reducible refine gate_store (p := 30) rfl ?_); refine wpList_sfield (d := tSt) (k := k) (j := 2) (x0 := (⟨qk, qk + 1, x.want, x.sent, x.live, x.back, x.got⟩ : St)) (x1 := (⟨qk, qk + 1, qk + 1 + 1, x.sent, x.live, x.back, x.got⟩ : St)) S (by rfl) 3 _ _ rfl rfl (.int .i64 _) rfl rfl ts3 memA hA.out (by first | rfl | simp [tSt]) (by decide) (st_set (fun _ _ _ _ => rfl) rfl rfl rfl rfl (fun h => by unfold I64 at h ⊢; simp only at h ⊢; omega)) putA ?_; clear S; intro w9 S; obtain ⟨B1, c1, B2, c2, B3, c3, B4, c4, G1, G2, G3, G4, F1, F3, hF, hI, S⟩ := S.lendSt; have HF := Lib.hid hF; have HI := Lib.hid hI; have l1 := (S.row (d := tPk) (xs := x.sent) memA).le; have l2 := (S.row (d := tBool) (xs := x.live) (F := G2) memA).le; have l3 := (S.row (d := tBool) (xs := x.back) (F := G3) memA).le; have l4 := (S.row (d := tInt) (xs := x.got) memA).le; clear hF hI)
        | ((with_reducible refine gate_dst (N := 37) rfl ?_); refine aRc ((S.restAt memA hA.out).at_ 3 rfl) ?_)
        | ((with_reducible refine gate_dst (N := 44) rfl ?_); refine aRc ((S.restAt memA hA.out).at_ 4 rfl) ?_)
        | ((with_reducible refine gate_dst (N := 51) rfl ?_); refine aRc ((S.restAt memA hA.out).at_ 5 rfl) ?_)
        | ((with_reducible refine gate_dst (N := 58) rfl ?_); refine aRc ((S.restAt memA hA.out).at_ 6 rfl) ?_)
        | (go_at_call 98; (with_reducible refine (markPacketS_c _ (.slice B1 x.sent.length c1) x.sent G1 _ (S.row memA) (by omega) (by omega)).mono ?_); rintro e w9 ⟨rfl, h9, c9⟩; replace S := S.putRow putA h9 c9; clear h9 c9)
        | (go_at_call 99; (with_reducible refine (markBoolS_c _ (.slice B2 x.live.length c2) x.live G2 _ (S.row memA) (by omega) (by omega)).mono ?_); rintro e w9 ⟨rfl, h9, c9⟩; replace S := S.putRow putA h9 c9; clear h9 c9)
        | (go_at_call 99; (with_reducible refine (markBoolS_c _ (.slice B3 x.back.length c3) x.back G3 _ (S.row memA) (by omega) (by omega)).mono ?_); rintro e w9 ⟨rfl, h9, c9⟩; replace S := S.putRow putA h9 c9; clear h9 c9)
        | (go_at_call 75; (with_reducible refine (markIntS_c _ (.slice B4 x.got.length c4) x.got G4 _ (S.row memA) (by omega) (by omega)).mono ?_); rintro e w9 ⟨rfl, h9, c9⟩; replace S := S.putRow putA h9 c9; clear h9 c9))
      replace S := S.backSt HI.out
      rw [← HF.out] at S
      go_roundw
      case rel => exact ⟨k + 1, by omega, by go_num, by rw [MT.out, HX.out, ← HQ.out]; congr 1; unfold cntMSt; omega, by rw [TK.out, HX.out, HQ.out, List.append_assoc, markS1_eq]; exact S⟩
      case measure => simp [intOf]; omega
    · obtain rfl : k = xs.length := by omega
      rw [List.drop_length, List.append_nil, List.take_length] at S
      rw [List.take_length]
      go_wp2
      go_ret
      exact ⟨rfl, S.row memA, S.chg⟩
set_option maxHeartbeats 3200000 in
theorem heldStateS_c (w : World) (v : Value) (xs : List St) (q : Int) (h1 : tSt.row w v (marksS q xs)) (hb : ∀ k (h : k < xs.length), Small xs[k]) (hq0 : 0 ≤ q) (hq1 : q ≤ 1000000000000000) (hc : cntMStS xs ≤ 1000000000) :
    Calls Try.prog 77 #[v, .int .i64 q] w (Ret (.int .i64 (q + cntMStS xs)) w) := by
  obtain ⟨A1, c1, rfl⟩ := h1.val
  have hm := h1.le
  rw [marksS_len] at hm
  rw [marksS_len] at h1 ⊢
  have H1 := Lib.hid h1
  clear h1
  have S := Sep.start w
  go_enter Try.func77, Try.ntmps77
  go_wp2
  go_loopw [1, 5] (fun q' i wr => ∃ k : Nat, k ≤ xs.length ∧ i = .int .i64 k ∧ q' = .int .i64 (q + cntMStS (xs.take k)) ∧ Sep [] w [] wr) (fun _ i _ => xs.length - (intOf i).toNat)
  case atStart => exact ⟨0, Nat.zero_le _, rfl, by simp [cntMStS], S⟩
  case round =>
    clear S
    obtain ⟨k, hk, rfl, rfl, S⟩ := hrel
    by_cases hlt : k < xs.length
    · obtain ⟨ad1, cs1, rfl, r1, g1⟩ := cellsAt_of_row H1.out k (by rw [marksS_len]; exact hlt)
      rw [marksS_get q xs k hlt] at r1
      obtain ⟨b1, b2, b3, b4⟩ := hb k hlt
      have MT := Lib.hid (cntMStS_take xs k hlt)
      have ML := Lib.hid (cntMStS_le xs k)
      obtain ⟨x, hx⟩ : ∃ x, xs[k] = x := ⟨_, rfl⟩
      rw [hx] at r1 b1 b2 b3 b4
      have HX := Lib.hid hx
      obtain ⟨qk, hqk⟩ : ∃ qk, q + (cntMStS (xs.take k) : Int) = qk := ⟨_, rfl⟩
      have HQ := Lib.hid hqk
      have q0 : 0 ≤ qk := by omega
      have q1 : qk ≤ 2000000000000000 := by have := ML.out; omega
      rw [hqk]
      rw [hqk, markS1_eq] at r1
      clear hx hqk hb
      obtain ⟨v1, v2, v3, v4, rfl, h11, h12, h13, h14, _⟩ := r1
      have G1 := Lib.hid (fun (W : World) (f : Fr w W) => g1.fr f)
      clear g1
      have p0 : (0 : Int) ≤ (k : Int) := Int.natCast_nonneg _
      have p1 : (k : Int) < (xs.length : Int) := by omega
      have w1 : IntKind.i64.wrap (qk + 1) = qk + 1 := IntWalk.i64_in _ (by omega)
      have w2 : IntKind.i64.wrap (qk + 1 + 1) = qk + 1 + 1 := IntWalk.i64_in _ (by omega)
      have w3 : IntKind.i64.wrap (qk + 1 + 1 + 1) = qk + 1 + 1 + 1 := IntWalk.i64_in _ (by omega)
      go_wp2_with (first
        | ((with_reducible refine gate_dst (N := 16) rfl ?_); refine aRc ((G1.out _ S.frame).at_ 0 rfl) ?_)
        | ((with_reducible refine gate_dst (N := 25) rfl ?_); refine aRc ((G1.out _ S.frame).at_ 1 rfl) ?_)
        | ((with_reducible refine gate_dst (N := 34) rfl ?_); refine aRc ((G1.out _ S.frame).at_ 2 rfl) ?_)
        | ((with_reducible refine gate_dst (N := 43) rfl ?_); refine aRc ((G1.out _ S.frame).at_ 3 rfl) ?_)
        | ((with_reducible refine gate_dst (N := 52) rfl ?_); refine aRc ((G1.out _ S.frame).at_ 4 rfl) ?_)
        | ((with_reducible refine gate_dst (N := 61) rfl ?_); refine aRc ((G1.out _ S.frame).at_ 5 rfl) ?_)
        | ((with_reducible refine gate_dst (N := 70) rfl ?_); refine aRc ((G1.out _ S.frame).at_ 6 rfl) ?_)
        | (go_at_call 100; (with_reducible refine (heldPacketS_c _ _ x.sent.length _ (h11.fr S.frame) b1 (by omega) (by omega)).mono ?_); rintro e w9 ⟨rfl, f9⟩; replace S := S.fr f9; clear f9)
        | (go_at_call 101; (with_reducible refine (heldBoolS_c _ _ x.live.length _ (h12.fr S.frame) b2 (by omega) (by omega)).mono ?_); rintro e w9 ⟨rfl, f9⟩; replace S := S.fr f9; clear f9)
        | (go_at_call 101; (with_reducible refine (heldBoolS_c _ _ x.back.length _ (h13.fr S.frame) b3 (by omega) (by omega)).mono ?_); rintro e w9 ⟨rfl, f9⟩; replace S := S.fr f9; clear f9)
        | (go_at_call 78; (with_reducible refine (heldIntS_c _ _ x.got.length _ (h14.fr S.frame) b4 (by omega) (by omega)).mono ?_); rintro e w9 ⟨rfl, f9⟩; replace S := S.fr f9; clear f9))
      go_roundw
      case rel => exact ⟨k + 1, by omega, by go_num, by rw [MT.out, HX.out, ← HQ.out]; congr 1; unfold cntMSt; omega, S⟩
      case measure => simp [intOf]; omega
    · obtain rfl : k = xs.length := by omega
      rw [List.take_length]
      go_wp2
      go_ret
      exact ⟨rfl, S.frame⟩
end Go.Proofs.Ytapdcgjccckjeaa
namespace Go.Proofs.Ytapdcgjccckjeaa
set_option maxRecDepth 100000
set_option linter.unusedVariables false
set_option linter.unusedSimpArgs false
open Go.RowKit
set_option maxHeartbeats 1600000 in
theorem freshI_c (w : World) (v : Value) (xs : List Int) (h1 : tInt.row w v xs) (hm : xs.length ≤ 2097152) : Calls Try.prog 127 #[v] w (RetRow tInt 3 xs w) := by
  obtain ⟨A1, c1, rfl⟩ := h1.val
  have S := Sep.start w
  go_enter Try.func127, Try.ntmps127
  go_wp2_with (first
    | ((with_reducible refine gate_dst (N := 6) rfl ?_); refine aMk (d := tInt) (0 : Int) S (fun _ => ⟨rfl, rfl⟩) hm ?_; clear S; intro g6 w9 z9 S)
    | ((with_reducible refine gate_dst (N := 9) rfl ?_); refine aCp tInt_plain S delA (h1.fr S.frame) (by simp) ?_; clear S; intro w9 S))
  go_ret
  exact S.retRow List.mem_cons_self
set_option maxHeartbeats 1600000 in
theorem freshB_c (w : World) (v : Value) (xs : List Bool) (h1 : tBool.row w v xs) (hm : xs.length ≤ 2097152) : Calls Try.prog 126 #[v] w (RetRow tBool 4 xs w) := by
  obtain ⟨A1, c1, rfl⟩ := h1.val
  have S := Sep.start w
  go_enter Try.func126, Try.ntmps126
  go_wp2_with (first
    | ((with_reducible refine gate_dst (N := 6) rfl ?_); refine aMk (d := tBool) false S (fun _ => ⟨rfl, rfl⟩) hm ?_; clear S; intro g6 w9 z9 S)
    | ((with_reducible refine gate_dst (N := 9) rfl ?_); refine aCp tBool_plain S delA (h1.fr S.frame) (by simp) ?_; clear S; intro w9 S))
  go_ret
  exact S.retRow List.mem_cons_self
set_option maxHeartbeats 1600000 in
theorem freshP_c (w : World) (v : Value) (xs : List Pk) (h1 : tPk.row w v xs) (hm : xs.length ≤ 2097152) : Calls Try.prog 125 #[v] w (RetRow tPk 88 xs w) := by
  obtain ⟨A1, c1, rfl⟩ := h1.val
  have S := Sep.start w
  go_enter Try.func125, Try.ntmps125
  go_wp2_with (first
    | ((with_reducible refine gate_dst (N := 6) rfl ?_); refine aMk (d := tPk) zPk S (fun _ => ⟨⟨rfl, zPk_ok⟩, rfl⟩) hm ?_; clear S; intro g6 w9 z9 S)
    | ((with_reducible refine gate_dst (N := 9) rfl ?_); refine aCp tPk_plain S delA (h1.fr S.frame) (by simp) ?_; clear S; intro w9 S))
  go_ret
  exact S.retRow List.mem_cons_self
def smallSt (s : St) : Prop := s.sent.length ≤ 2097152 ∧ s.live.length ≤ 2097152 ∧ s.back.length ≤ 2097152 ∧ s.got.length ≤ 2097152
set_option maxHeartbeats 3200000 in
theorem stateCopy_c (w : World) (s : St) (c1 : List Value) (h1 : tSt.rd w s c1) (hb : smallSt s) : Calls Try.prog 95 #[.agg c1.toArray] w (RetOwn tSt s w) := by
  obtain ⟨v1, v2, v3, v4, rfl, h11, h12, h13, h14, h15⟩ := h1
  obtain ⟨b1, b2, b3, b4⟩ := hb
  have S := Sep.start w
  go_enter Try.func95, Try.ntmps95
  go_wp2_with (first | ((with_reducible refine gate_dst (N := 1) rfl ?_); refine aBx S ?_; clear S; intro gP w9 z9 S) | ((with_reducible refine gate_dst (N := 2) rfl ?_); refine aAl S ?_; clear S; intro gR w9 z9 S))
  have S0 := (Sep.only1 (a1 := aBox gP _ _ _) S delA)
  refine wp_region_noPanic ?_
  refine wp_region_held_drew (S := Sep _ _ _) (by kernel_rfl) S0.drew (fun _ => ?_)
  replace S := S.drew
  clear S0
  refine tk 0 ?_
  (try simp only [Act.put, List.setIfInBounds_toArray, List.set_cons_zero, List.set_cons_succ])
  refine tk 1 ?_
  (try simp only [Act.put, List.setIfInBounds_toArray, List.set_cons_zero, List.set_cons_succ])
  refine tk 2 ?_
  (try simp only [Act.put, List.setIfInBounds_toArray, List.set_cons_zero, List.set_cons_succ])
  refine tk 3 ?_
  (try simp only [Act.put, List.setIfInBounds_toArray, List.set_cons_zero, List.set_cons_succ])
  refine tk 4 ?_
  (try simp only [Act.put, List.setIfInBounds_toArray, List.set_cons_zero, List.set_cons_succ])
  refine tk 5 ?_
  (try simp only [Act.put, List.setIfInBounds_toArray, List.set_cons_zero, List.set_cons_succ])
  refine tk 6 ?_
  (try simp only [Act.put, List.setIfInBounds_toArray, List.set_cons_zero, List.set_cons_succ])
  refine tk 7 ?_
  (try simp only [Act.put, List.setIfInBounds_toArray, List.set_cons_zero, List.set_cons_succ])
  refine tk 9 ?_
  (try simp only [Act.put, List.setIfInBounds_toArray, List.set_cons_zero, List.set_cons_succ])
  refine tk 10 ?_
  (try simp only [Act.put, List.setIfInBounds_toArray, List.set_cons_zero, List.set_cons_succ])
  refine tk 12 ?_
  (try simp only [Act.put, List.setIfInBounds_toArray, List.set_cons_zero, List.set_cons_succ])
  refine tk 13 ?_
  (try simp only [Act.put, List.setIfInBounds_toArray, List.set_cons_zero, List.set_cons_succ])
  refine tk 15 ?_
  (try simp only [Act.put, List.setIfInBounds_toArray, List.set_cons_zero, List.set_cons_succ])
  refine tk 16 ?_
  (try simp only [Act.put, List.setIfInBounds_toArray, List.set_cons_zero, List.set_cons_succ])
  refine rdy1 8 (fun K hK => ?_)
  go_simp; (skip; go_at_call 125; (with_reducible refine (freshP_c _ _ s.sent (h11.fr S.frame) b1).mono ?_); rintro e w9 ⟨v9, F9, rfl, h9, n9, b9, f9⟩; obtain ⟨A9, c9, rfl⟩ := h9.row.val; replace S := S.new (aRow tPk 88 _ (.slice A9 _ c9) F9) h9 n9 b9 f9; clear h9 n9 b9 f9)
  (first | refine hK.out _ _ (S.sub subA) (fun _ => ?_) | (go_wp2_with fail; refine hK.out _ _ (S.sub subA) (fun _ => ?_)))
  clear hK K
  (try simp only [Act.put, List.setIfInBounds_toArray, List.set_cons_zero, List.set_cons_succ])
  refine rdy1 11 (fun K hK => ?_)
  go_simp; (skip; go_at_call 126; (with_reducible refine (freshB_c _ _ s.live (h12.fr S.frame) b2).mono ?_); rintro e w9 ⟨v9, F9, rfl, h9, n9, b9, f9⟩; obtain ⟨A9, c9, rfl⟩ := h9.row.val; replace S := S.new (aRow tBool 4 _ (.slice A9 _ c9) F9) h9 n9 b9 f9; clear h9 n9 b9 f9)
  (first | refine hK.out _ _ (S.sub subA) (fun _ => ?_) | (go_wp2_with fail; refine hK.out _ _ (S.sub subA) (fun _ => ?_)))
  clear hK K
  (try simp only [Act.put, List.setIfInBounds_toArray, List.set_cons_zero, List.set_cons_succ])
  refine rdy1 14 (fun K hK => ?_)
  go_simp; (skip; go_at_call 126; (with_reducible refine (freshB_c _ _ s.back (h13.fr S.frame) b3).mono ?_); rintro e w9 ⟨v9, F9, rfl, h9, n9, b9, f9⟩; obtain ⟨A9, c9, rfl⟩ := h9.row.val; replace S := S.new (aRow tBool 4 _ (.slice A9 _ c9) F9) h9 n9 b9 f9; clear h9 n9 b9 f9)
  (first | refine hK.out _ _ (S.sub subA) (fun _ => ?_) | (go_wp2_with fail; refine hK.out _ _ (S.sub subA) (fun _ => ?_)))
  clear hK K
  (try simp only [Act.put, List.setIfInBounds_toArray, List.set_cons_zero, List.set_cons_succ])
  refine rdy1 17 (fun K hK => ?_)
  go_simp; (skip; go_at_call 127; (with_reducible refine (freshI_c _ _ s.got (h14.fr S.frame) b4).mono ?_); rintro e w9 ⟨v9, F9, rfl, h9, n9, b9, f9⟩; obtain ⟨A9, c9, rfl⟩ := h9.row.val; replace S := S.new (aRow tInt 3 _ (.slice A9 _ c9) F9) h9 n9 b9 f9; clear h9 n9 b9 f9)
  (first | refine hK.out _ _ (S.sub subA) (fun _ => ?_) | (go_wp2_with fail; refine hK.out _ _ (S.sub subA) (fun _ => ?_)))
  clear hK K
  (try simp only [Act.put, List.setIfInBounds_toArray, List.set_cons_zero, List.set_cons_succ])
  refine tk 18 ?_
  (try simp only [Act.put, List.setIfInBounds_toArray, List.set_cons_zero, List.set_cons_succ])
  refine rdy1 19 (fun K hK => ?_)
  (first | refine rgS1 S ?_ | refine rgSt S ?_ | refine rgSp S ?_); clear S; intro w9 S
  (first | refine hK.out _ _ (S.sub subA) (fun _ => ?_) | (go_wp2_with fail; refine hK.out _ _ (S.sub subA) (fun _ => ?_)))
  clear hK K
  (try simp only [Act.put, List.setIfInBounds_toArray, List.set_cons_zero, List.set_cons_succ])
  refine wpAnyH_done (by kernel_rfl) ?_ _
  refine NoPanic.normal ?_
  go_wp2
  have S' := Sep.shutSt (x := s.way) (y := s.vsn) (z := s.want) (Sep.only4 (a1 := aRow tPk _ s.sent _ _) (a2 := aRow tBool _ s.live _ _) (a3 := aRow tBool _ s.back _ _) (a4 := aRow tInt _ s.got _ _) S delA delA delA delA) h15
  (refine Sep.ret1 S rfl rfl memA Try.underlying30 rfl ts30 rfl ?_)
  exact S'.retOwn List.mem_cons_self
set_option maxHeartbeats 3200000 in
theorem l3Copy_c (w : World) (s : St) (c1 : List Value) (h1 : tSt.rd w s c1) (hb : smallSt s) : Calls Try.prog 94 #[.agg c1.toArray] w (RetOwn tSt s w) := by
  obtain ⟨v1, v2, v3, v4, rfl, h11, h12, h13, h14, h15⟩ := h1
  obtain ⟨A1, c1, rfl⟩ := h11.val
  obtain ⟨A2, c2, rfl⟩ := h12.val
  obtain ⟨A3, c3, rfl⟩ := h13.val
  obtain ⟨A4, c4, rfl⟩ := h14.val
  obtain ⟨b1, b2, b3, b4⟩ := hb
  have S := Sep.start w
  go_enter Try.func94, Try.ntmps94
  go_wp2_with (first
    | ((with_reducible refine gate_dst (N := 1) rfl ?_); refine aBx S ?_; clear S; intro gP w9 z9 S)
    | ((with_reducible refine gate_dst (N := 2) rfl ?_); refine aAl S ?_; clear S; intro gR w9 z9 S)
    | ((with_reducible refine gate_dst (N := 3) rfl ?_); refine aLit0 tPk (e := 88) S ?_; clear S; intro g3 w9 z9 S)
    | ((with_reducible refine gate_dst (N := 6) rfl ?_); refine aApR tPk_plain S delA (h11.fr S.frame) (.inr ⟨_, _, _, rfl⟩) (by simpa using b1) ?_; clear S; intro A6 c6 F6 w9 S)
    | ((with_reducible refine gate_dst (N := 8) rfl ?_); refine aLit0 tBool (e := 4) S ?_; clear S; intro g8 w9 z9 S)
    | ((with_reducible refine gate_dst (N := 11) rfl ?_); refine aApR tBool_plain S delA (h12.fr S.frame) (.inr ⟨_, _, _, rfl⟩) (by simpa using b2) ?_; clear S; intro A11 c11 F11 w9 S)
    | ((with_reducible refine gate_dst (N := 13) rfl ?_); refine aLit0 tBool (e := 4) S ?_; clear S; intro g13 w9 z9 S)
    | ((with_reducible refine gate_dst (N := 16) rfl ?_); refine aApR tBool_plain S delA (h13.fr S.frame) (.inr ⟨_, _, _, rfl⟩) (by simpa using b3) ?_; clear S; intro A16 c16 F16 w9 S)
    | ((with_reducible refine gate_dst (N := 18) rfl ?_); refine aLit0 tInt (e := 3) S ?_; clear S; intro g18 w9 z9 S)
    | ((with_reducible refine gate_dst (N := 21) rfl ?_); refine aApR tInt_plain S delA (h14.fr S.frame) (.inr ⟨_, _, _, rfl⟩) (by simpa using b4) ?_; clear S; intro A21 c21 F21 w9 S)
    | ((with_reducible refine gate_box rfl ?_); refine aBx S ?_; clear S; intro g9 w9 z9 S) | ((with_reducible refine gate_alloc rfl ?_); refine aAl S ?_; clear S; intro g9 w9 z9 S) | ((with_reducible refine gate_load rfl ?_); first | refine aLd S ?_ | refine aPt S ?_ | refine aL1 S ?_) | ((with_reducible refine gate_st rfl ?_); (first | refine aS1 S ?_ | refine aSt S ?_ | refine aSp S ?_); clear S; intro w9 S))
  have S' := Sep.shutSt (x := s.way) (y := s.vsn) (z := s.want) (Sep.only4 (a1 := aRow tPk _ s.sent _ _) (a2 := aRow tBool _ s.live _ _) (a3 := aRow tBool _ s.back _ _) (a4 := aRow tInt _ s.got _ _) S delA delA delA delA) h15
  (refine Sep.ret1 S rfl rfl memA Try.underlying30 rfl ts30 rfl ?_)
  exact S'.retOwn List.mem_cons_self
end Go.Proofs.Ytapdcgjccckjeaa
namespace Go.Proofs.Ytapdcgjccckjeaa
set_option maxRecDepth 100000
set_option linter.unusedVariables false
set_option linter.unusedSimpArgs false
open Go.RowKit

structure Bk where
  own : List Int
  notes : List Int
  locked : Int
def tBk : Ty Bk where
  sz := 3
  rd := fun w b cs => ∃ v1 v2, cs = [v1, v2, .int .i64 b.locked] ∧ tInt.row w v1 b.own ∧ tInt.row w v2 b.notes ∧ I64 b.locked
  own := fun w b cs F => ∃ v1 v2 F1 F2, cs = [v1, v2, .int .i64 b.locked] ∧ F = F1 ++ F2 ∧ tInt.orow 3 w v1 b.own F1 ∧ tInt.orow 3 w v2 b.notes F2 ∧ I64 b.locked
  len := by rintro w x cs ⟨v1, v2, rfl, _⟩; rfl
  fr := by rintro w w' x cs f ⟨v1, v2, rfl, h1, h2, h3⟩; exact ⟨v1, v2, rfl, h1.fr f, h2.fr f, h3⟩
  own_rd := by rintro w x cs F ⟨v1, v2, F1, F2, rfl, rfl, h1, h2, h3⟩; exact ⟨v1, v2, rfl, h1.row, h2.row, h3⟩
  own_lt := by
    rintro w x cs F ⟨v1, v2, F1, F2, rfl, rfl, h1, h2, h3⟩ g hg
    rcases List.mem_append.1 hg with hg | hg
    · exact h1.lt g hg
    · exact h2.lt g hg
  keep := by rintro w w' x cs F ⟨v1, v2, F1, F2, rfl, rfl, h1, h2, h3⟩ hk; exact ⟨v1, v2, F1, F2, rfl, rfl, h1.keep (fun g hg => hk g (List.mem_append_left _ hg)), h2.keep (fun g hg => hk g (List.mem_append_right _ hg)), h3⟩
  one := by
    rintro w x cs F ⟨v1, v2, F1, F2, rfl, rfl, h1, h2, h3⟩ u hu
    simp only [List.mem_cons, List.not_mem_nil, or_false] at hu
    rcases hu with rfl | rfl | rfl
    · exact h1.one
    · exact h2.one
    · rfl

theorem tBk_mk {w : World} {b : Bk} {v1 v2 : Value} (h1 : tInt.row w v1 b.own) (h2 : tInt.row w v2 b.notes) (h3 : I64 b.locked) : tBk.rd w b [v1, v2, .int .i64 b.locked] := ⟨v1, v2, rfl, h1, h2, h3⟩
set_option maxHeartbeats 400000 in
theorem eqBank_c (w : World) (b : Bk) (c1 c2 : List Value) (h1 : tBk.rd w b c1) (h2 : tBk.rd w b c2) :
    Calls Try.prog 70 #[.agg c1.toArray, .agg c2.toArray] w (Ret (.bool true) w) := by
  obtain ⟨v1, v2, rfl, h11, h12, h13⟩ := h1
  obtain ⟨u1, u2, rfl, h21, h22, _⟩ := h2
  have f := Fr.refl w
  go_enter Try.func70, Try.ntmps70
  go_wp2_with (first
    | ((with_reducible refine gate_dst (N := 2) rfl ?_); refine wpList_box rfl _ _ rfl #[v1, v2, .int .i64 b.locked] rfl ?_; intro g_k1 w9 hg_k1 k1 f9; have zf_k1 := f.size; have hl_k1 := k1.lt; have z9 := f9.size; replace f := f.trans f9; (try replace h11 := h11.fr f9); (try replace h12 := h12.fr f9); (try replace h21 := h21.fr f9); (try replace h22 := h22.fr f9); (try (replace k2 := k2.fr f9; (try clear r_k2); have r_k2 := k2.cells)); (try clear r_k1); have r_k1 := k1.cells)
    | ((with_reducible refine gate_dst (N := 3) rfl ?_); refine wpList_box rfl _ _ rfl #[u1, u2, .int .i64 b.locked] rfl ?_; intro g_k2 w9 hg_k2 k2 f9; have zf_k2 := f.size; have hl_k2 := k2.lt; have z9 := f9.size; replace f := f.trans f9; (try replace h11 := h11.fr f9); (try replace h12 := h12.fr f9); (try replace h21 := h21.fr f9); (try replace h22 := h22.fr f9); (try (replace k1 := k1.fr f9; (try clear r_k1); have r_k1 := k1.cells)); (try clear r_k2); have r_k2 := k2.cells)
    | (go_at_call 72; (with_reducible refine (eqIntS_c _ _ _ _ (by assumption) (by assumption)).mono ?_); rintro e w9 ⟨rfl, f9⟩; have z9 := f9.size; replace f := f.trans f9; (try replace h11 := h11.fr f9); (try replace h12 := h12.fr f9); (try replace h21 := h21.fr f9); (try replace h22 := h22.fr f9); (try (replace k1 := k1.fr f9; (try clear r_k1); have r_k1 := k1.cells)); (try (replace k2 := k2.fr f9; (try clear r_k2); have r_k2 := k2.cells))))
  go_ret
  exact ⟨rfl, f⟩

def cntBk (b : Bk) : Nat := b.own.length + b.notes.length
def markBk (q : Int) (b : Bk) : Bk := { own := marksI q b.own.length, notes := marksI (q + b.own.length) b.notes.length, locked := b.locked }

set_option maxHeartbeats 400000 in
theorem heldBank_c (w : World) (b : Bk) (c1 : List Value) (q : Int) (h1 : tBk.rd w (markBk q b) c1) (hb : b.own.length ≤ 2097152 ∧ b.notes.length ≤ 2097152) (hq0 : 0 ≤ q) (hq1 : q ≤ 100000000000000000) :
    Calls Try.prog 76 #[.agg c1.toArray, .int .i64 q] w (Ret (.int .i64 (q + cntBk b)) w) := by
  obtain ⟨v1, v2, rfl, h11, h12, h13⟩ := h1
  have f := Fr.refl w
  obtain ⟨hb1, hb2⟩ := hb
  go_enter Try.func76, Try.ntmps76
  go_wp2_with (first
    | ((with_reducible refine gate_dst (N := 2) rfl ?_); refine wpList_box rfl _ _ rfl #[v1, v2, .int .i64 b.locked] rfl ?_; intro g_k1 w9 hg_k1 k1 f9; have zf_k1 := f.size; have hl_k1 := k1.lt; have z9 := f9.size; replace f := f.trans f9; (try replace h11 := h11.fr f9); (try replace h12 := h12.fr f9); (try clear r_k1); have r_k1 := k1.cells)
    | (go_at_call 78; (with_reducible refine (heldIntS_c _ _ b.own.length _ h11 hb1 (by omega) (by omega)).mono ?_); rintro e w9 ⟨rfl, f9⟩; have z9 := f9.size; replace f := f.trans f9; (try replace h11 := h11.fr f9); (try replace h12 := h12.fr f9); (try (replace k1 := k1.fr f9; (try clear r_k1); have r_k1 := k1.cells)))
    | (go_at_call 78; (with_reducible refine (heldIntS_c _ _ b.notes.length _ h12 hb2 (by omega) (by omega)).mono ?_); rintro e w9 ⟨rfl, f9⟩; have z9 := f9.size; replace f := f.trans f9; (try replace h11 := h11.fr f9); (try replace h12 := h12.fr f9); (try (replace k1 := k1.fr f9; (try clear r_k1); have r_k1 := k1.cells))))
  go_ret
  exact ⟨ret_int (by unfold cntBk; omega), f⟩

set_option maxHeartbeats 400000 in
theorem szBank_c (w : World) (b : Bk) (c1 : List Value) (left : Int) (h1 : tBk.rd w b c1) (hl0 : 0 ≤ left) (hl1 : left ≤ 1048576) :
    Calls Try.prog 84 #[.agg c1.toArray, .int .i64 left] w (Ret (.int .i64 (szr left (cntBk b))) w) := by
  obtain ⟨v1, v2, rfl, h11, h12, h13⟩ := h1
  have f := Fr.refl w
  by_cases e1 : (b.own.length : Int) ≤ left
  · have s1 : szr left b.own.length = left - b.own.length := if_pos e1
    have S1 := Lib.hid s1
    clear s1
    by_cases e2 : (b.notes.length : Int) ≤ left - b.own.length
    all_goals
      go_enter Try.func84, Try.ntmps84
      go_wp2_with (first
        | ((with_reducible refine gate_dst (N := 2) rfl ?_); refine wpList_box rfl _ _ rfl #[v1, v2, .int .i64 b.locked] rfl ?_; intro g_k1 w9 hg_k1 k1 f9; have zf_k1 := f.size; have hl_k1 := k1.lt; have z9 := f9.size; replace f := f.trans f9; (try replace h11 := h11.fr f9); (try replace h12 := h12.fr f9); (try clear r_k1); have r_k1 := k1.cells)
        | (go_at_call 86; (with_reducible refine (szIntS_c _ _ b.own left h11 hl0 hl1).mono ?_); rintro e w9 ⟨rfl, f9⟩; have z9 := f9.size; replace f := f.trans f9; (try replace h11 := h11.fr f9); (try replace h12 := h12.fr f9); (try (replace k1 := k1.fr f9; (try clear r_k1); have r_k1 := k1.cells))); rw [S1.out]
        | (go_at_call 86; (with_reducible refine (szIntS_c _ _ b.notes (left - b.own.length) h12 (by omega) (by omega)).mono ?_); rintro e w9 ⟨rfl, f9⟩; have z9 := f9.size; replace f := f.trans f9; (try replace h11 := h11.fr f9); (try replace h12 := h12.fr f9); (try (replace k1 := k1.fr f9; (try clear r_k1); have r_k1 := k1.cells))); simp only [szr, e2, if_true, if_false])
      go_ret
      exact ⟨ret_int (by unfold szr cntBk; split <;> omega), f⟩
  · have s1 : szr left b.own.length = -1 := if_neg e1
    have S1 := Lib.hid s1
    clear s1
    go_enter Try.func84, Try.ntmps84
    go_wp2_with (first
      | ((with_reducible refine gate_dst (N := 2) rfl ?_); refine wpList_box rfl _ _ rfl #[v1, v2, .int .i64 b.locked] rfl ?_; intro g_k1 w9 hg_k1 k1 f9; have zf_k1 := f.size; have hl_k1 := k1.lt; have z9 := f9.size; replace f := f.trans f9; (try replace h11 := h11.fr f9); (try replace h12 := h12.fr f9); (try clear r_k1); have r_k1 := k1.cells)
      | (go_at_call 86; (with_reducible refine (szIntS_c _ _ b.own left h11 hl0 hl1).mono ?_); rintro e w9 ⟨rfl, f9⟩; have z9 := f9.size; replace f := f.trans f9; (try replace h11 := h11.fr f9); (try replace h12 := h12.fr f9); (try (replace k1 := k1.fr f9; (try clear r_k1); have r_k1 := k1.cells))); rw [S1.out])
    go_ret
    exact ⟨ret_int (by unfold szr cntBk; split <;> omega), f⟩

theorem zero26 (w : World) : (zeroValue 26).run Try.prog w = .ok (.agg #[.slice none 0 0, .slice none 0 0, .int .i64 0]) w := by kernel_rfl
theorem size26 : (Try.prog.info? 26).map (·.size) = some 3 := by kernel_rfl
theorem size24 : (Try.prog.info? 24).map (·.size) = some 1 := by kernel_rfl
theorem size3 : (Try.prog.info? 3).map (·.size) = some 1 := by kernel_rfl
set_option maxHeartbeats 800000 in
theorem toBank_c (w : World) (b : Bk) (c1 : List Value) (h1 : tBk.rd w b c1) (hb : b.own.length ≤ 1048576 ∧ b.notes.length ≤ 1048576) :
    Calls Try.prog 89 #[.agg c1.toArray] w (RetOwn tBk b w) := by
  obtain ⟨v1, v2, rfl, h11, h12, h13⟩ := h1
  obtain ⟨hm1, hm2⟩ := hb
  have f := Fr.refl w
  go_enter Try.func89, Try.ntmps89
  go_wp2_with (first
    | ((with_reducible refine gate_dst (N := 1) rfl ?_); refine wpList_box rfl _ _ rfl #[v1, v2, .int .i64 b.locked] rfl ?_; intro g_k1 w9 hg_k1 k1 f9; have zf_k1 := f.size; have hl_k1 := k1.lt; have z9 := f9.size; replace f := f.trans f9; (try replace ho1 := ho1.fr f9); (try replace ho2 := ho2.fr f9); (try (replace k2 := k2.fr f9; (try clear r_k2); have r_k2 := k2.cells)); (try (replace k3 := k3.fr f9; (try clear r_k3); have r_k3 := k3.cells)); (try clear r_k1); have r_k1 := k1.cells)
    | ((with_reducible refine gate_dst (N := 2) rfl ?_); refine wpList_alloc rfl _ rfl _ (zero26 _) #[.slice none 0 0, .slice none 0 0, .int .i64 0] rfl ?_; intro g_k2 w9 hg_k2 k2 f9; have zf_k2 := f.size; have hl_k2 := k2.lt; have z9 := f9.size; replace f := f.trans f9; (try replace ho1 := ho1.fr f9); (try replace ho2 := ho2.fr f9); (try (replace k1 := k1.fr f9; (try clear r_k1); have r_k1 := k1.cells)); (try (replace k3 := k3.fr f9; (try clear r_k3); have r_k3 := k3.cells)); (try clear r_k2); have r_k2 := k2.cells)
    | ((with_reducible refine gate_dst (N := 3) rfl ?_); refine wpList_alloc rfl _ rfl _ (zero26 _) #[.slice none 0 0, .slice none 0 0, .int .i64 0] rfl ?_; intro g_k3 w9 hg_k3 k3 f9; have zf_k3 := f.size; have hl_k3 := k3.lt; have z9 := f9.size; replace f := f.trans f9; (try replace ho1 := ho1.fr f9); (try replace ho2 := ho2.fr f9); (try (replace k1 := k1.fr f9; (try clear r_k1); have r_k1 := k1.cells)); (try (replace k2 := k2.fr f9; (try clear r_k2); have r_k2 := k2.cells)); (try clear r_k3); have r_k3 := k3.cells)
    | (go_at_call 91; (with_reducible refine (toIntS_c _ v1 b.own (h11.fr f) hm1).mono ?_); rintro e w9 ⟨o1, F1, rfl, ho1, hn1, hb1, f9⟩; have hu1 := ho1.lt; have z9 := f9.size; replace f := f.trans f9; (try replace ho1 := ho1.fr f9); (try replace ho2 := ho2.fr f9); (try (replace k1 := k1.fr f9; (try clear r_k1); have r_k1 := k1.cells)); (try (replace k2 := k2.fr f9; (try clear r_k2); have r_k2 := k2.cells)); (try (replace k3 := k3.fr f9; (try clear r_k3); have r_k3 := k3.cells)))
    | (go_at_call 91; (with_reducible refine (toIntS_c _ v2 b.notes (h12.fr f) hm2).mono ?_); rintro e w9 ⟨o2, F2, rfl, ho2, hn2, hb2, f9⟩; have hu2 := ho2.lt; have z9 := f9.size; replace f := f.trans f9; (try replace ho1 := ho1.fr f9); (try replace ho2 := ho2.fr f9); (try (replace k1 := k1.fr f9; (try clear r_k1); have r_k1 := k1.cells)); (try (replace k2 := k2.fr f9; (try clear r_k2); have r_k2 := k2.cells)); (try (replace k3 := k3.fr f9; (try clear r_k3); have r_k3 := k3.cells)))
    | ((with_reducible refine gate_store (p := 7) rfl ?_); refine wpList_bstore1 k3 rfl _ _ _ rfl 0 rfl (o1) rfl (ho1.one) size24 (by simp) #[o1, .slice none 0 0, .int .i64 0] rfl ?_; intro w9 k9 c9; have z9 := c9.size; replace f := f.own c9 (fun q hq => by have := List.mem_singleton.1 hq; have := f.size; omega); (try replace ho1 := ho1.chg c9 (fun q hq hm => by have := hb1 q hq; have := hu1 q hq; have := List.mem_singleton.1 hm; omega)); (try replace ho2 := ho2.chg c9 (fun q hq hm => by have := hb2 q hq; have := hu2 q hq; have := List.mem_singleton.1 hm; omega)); (try (replace k1 := k1.chg c9 (fun hm => by have := List.mem_singleton.1 hm; omega); (try clear r_k1); have r_k1 := k1.cells)); (try (replace k2 := k2.chg c9 (fun hm => by have := List.mem_singleton.1 hm; omega); (try clear r_k2); have r_k2 := k2.cells)); replace k3 := k9; clear k9; (try clear r_k3); have r_k3 := k3.cells)
    | ((with_reducible refine gate_store (p := 11) rfl ?_); refine wpList_bstore1 k3 rfl _ _ _ rfl 1 rfl (o2) rfl (ho2.one) size24 (by simp) #[o1, o2, .int .i64 0] rfl ?_; intro w9 k9 c9; have z9 := c9.size; replace f := f.own c9 (fun q hq => by have := List.mem_singleton.1 hq; have := f.size; omega); (try replace ho1 := ho1.chg c9 (fun q hq hm => by have := hb1 q hq; have := hu1 q hq; have := List.mem_singleton.1 hm; omega)); (try replace ho2 := ho2.chg c9 (fun q hq hm => by have := hb2 q hq; have := hu2 q hq; have := List.mem_singleton.1 hm; omega)); (try (replace k1 := k1.chg c9 (fun hm => by have := List.mem_singleton.1 hm; omega); (try clear r_k1); have r_k1 := k1.cells)); (try (replace k2 := k2.chg c9 (fun hm => by have := List.mem_singleton.1 hm; omega); (try clear r_k2); have r_k2 := k2.cells)); replace k3 := k9; clear k9; (try clear r_k3); have r_k3 := k3.cells)
    | ((with_reducible refine gate_store (p := 14) rfl ?_); refine wpList_bstore1 k3 rfl _ _ _ rfl 2 rfl (.int .i64 b.locked) rfl (rfl) size3 (by simp) #[o1, o2, .int .i64 b.locked] rfl ?_; intro w9 k9 c9; have z9 := c9.size; replace f := f.own c9 (fun q hq => by have := List.mem_singleton.1 hq; have := f.size; omega); (try replace ho1 := ho1.chg c9 (fun q hq hm => by have := hb1 q hq; have := hu1 q hq; have := List.mem_singleton.1 hm; omega)); (try replace ho2 := ho2.chg c9 (fun q hq hm => by have := hb2 q hq; have := hu2 q hq; have := List.mem_singleton.1 hm; omega)); (try (replace k1 := k1.chg c9 (fun hm => by have := List.mem_singleton.1 hm; omega); (try clear r_k1); have r_k1 := k1.cells)); (try (replace k2 := k2.chg c9 (fun hm => by have := List.mem_singleton.1 hm; omega); (try clear r_k2); have r_k2 := k2.cells)); replace k3 := k9; clear k9; (try clear r_k3); have r_k3 := k3.cells)
    | ((with_reducible refine gate_dst (N := 15) rfl ?_); refine wpList_bload k3 rfl _ _ rfl 0 3 rfl _ Try.underlying26 rfl size26 (by simp) #[o1, o2, .int .i64 b.locked] rfl ?_)
    | ((with_reducible refine gate_store (p := 2) rfl ?_); refine wpList_bstore k2 rfl _ _ _ rfl 0 3 rfl (.agg #[o1, o2, .int .i64 b.locked]) rfl #[o1, o2, .int .i64 b.locked] rfl rfl size26 (by simp) (by intro u hu; simp at hu; rcases hu with rfl | rfl | rfl; exact ho1.one; exact ho2.one; rfl) #[o1, o2, .int .i64 b.locked] rfl ?_; intro w9 k9 c9; have z9 := c9.size; replace f := f.own c9 (fun q hq => by have := List.mem_singleton.1 hq; have := f.size; omega); (try replace ho1 := ho1.chg c9 (fun q hq hm => by have := hb1 q hq; have := hu1 q hq; have := List.mem_singleton.1 hm; omega)); (try replace ho2 := ho2.chg c9 (fun q hq hm => by have := hb2 q hq; have := hu2 q hq; have := List.mem_singleton.1 hm; omega)); (try (replace k1 := k1.chg c9 (fun hm => by have := List.mem_singleton.1 hm; omega); (try clear r_k1); have r_k1 := k1.cells)); (try (replace k3 := k3.chg c9 (fun hm => by have := List.mem_singleton.1 hm; omega); (try clear r_k3); have r_k3 := k3.cells)); replace k2 := k9; clear k9; (try clear r_k2); have r_k2 := k2.cells))
  exact bodyPost_ret (v := .agg #[o1, o2, .int .i64 b.locked]) (results_cell_row rfl _ _ g_k2 _ _ _ _ rfl k2.blk Try.underlying26 rfl size26) rfl
    ⟨[o1, o2, .int .i64 b.locked], F1 ++ F2, rfl, ⟨o1, o2, F1, F2, rfl, rfl, ho1, ho2, h13⟩, nodup_lt hn1 hn2 hu1 (by omega) hb2, lo_append (lo_mono hb1 (by omega)) (lo_mono hb2 (Nat.le_refl _)) (by omega), f⟩

set_option maxHeartbeats 800000 in
theorem markBank_c (w : World) (b : Bk) (cs : List Value) (F : List Nat) (q : Int) (h1 : tBk.own w b cs F) (hn : F.Nodup) (hq0 : 0 ≤ q) (hq1 : q ≤ 100000000000000000) :
    Calls Try.prog 73 #[.agg cs.toArray, .int .i64 q] w (RetMk tBk (q + cntBk b) (markBk q b) cs F w) := by
  obtain ⟨v1, v2, F1, F2, rfl, rfl, h11, h12, h13⟩ := h1
  have hm1 := h11.le
  have hm2 := h12.le
  obtain ⟨hn1, hn2, hn3⟩ := List.nodup_append.1 hn
  have hu1 := h11.lt
  have hu2 := h12.lt
  have Hd := Lib.hid hn3
  clear hn3
  have c : Chg (F1 ++ F2) w w := Chg.refl _ _
  go_enter Try.func73, Try.ntmps73
  go_wp2_with (first
    | ((with_reducible refine gate_dst (N := 2) rfl ?_); refine wpList_box rfl _ _ rfl #[v1, v2, .int .i64 b.locked] rfl ?_; intro g_k1 w9 hg_k1 k1 f9; have z9 := f9.size; replace h11 := h11.fr f9; replace h12 := h12.fr f9; replace c := c.fr f9; have r_k1 := k1.cells)
    | (go_at_call 75; (with_reducible refine (markIntS_c _ v1 b.own F1 _ h11 (by omega) (by omega)).mono ?_); rintro e w9 ⟨rfl, hm11, c9⟩; have z9 := c9.size; replace h12 := h12.chg c9 (fun x hx hy => Hd.out _ hy _ hx rfl); clear h11; clear r_k1; replace k1 := k1.chg c9 (fun hy => by have := hu1 _ hy; omega); have r_k1 := k1.cells; replace c := c.trans c9 (fun x hx => .inl (List.mem_append_left _ hx)))
    | (go_at_call 75; (with_reducible refine (markIntS_c _ v2 b.notes F2 _ h12 (by omega) (by omega)).mono ?_); rintro e w9 ⟨rfl, hm12, c9⟩; have z9 := c9.size; replace hm11 := hm11.chg c9 (fun x hx hy => Hd.out _ hx _ hy rfl); replace c := c.trans c9 (fun x hx => .inl (List.mem_append_right _ hx))))
  go_ret
  exact ⟨ret_int (by unfold cntBk; omega), ⟨v1, v2, F1, F2, rfl, rfl, hm11, hm12, h13⟩, c⟩
end Go.Proofs.Ytapdcgjccckjeaa
namespace Go.Proofs.Ytapdcgjccckjeaa
set_option maxRecDepth 100000
set_option linter.unusedVariables false
set_option linter.unusedSimpArgs false
open Go.RowKit

def rng (x : Int) : Bool := decide (0 ≤ x ∧ x ≤ 30)
def okL (xs : List Int) : Bool := xs.length == 3 && xs.all rng
def okBk (b : Bk) : Bool := okL b.own && okL b.notes && decide (0 ≤ b.locked) && decide (b.own.sum + b.locked = 30) && decide (b.notes.sum ≤ 30)
theorem okL_len {xs : List Int} (h : okL xs = true) : xs.length = 3 := by
  simp only [okL, Bool.and_eq_true, beq_iff_eq] at h
  exact h.1
theorem okL_get {xs : List Int} (h : okL xs = true) (k : Nat) (hk : k < xs.length) : 0 ≤ xs[k] ∧ xs[k] ≤ 30 := by
  simp only [okL, Bool.and_eq_true, List.all_eq_true] at h
  exact of_decide_eq_true (h.2 _ (List.getElem_mem hk))
theorem sum_take_succ (xs : List Int) (k : Nat) (hk : k < xs.length) : (xs.take (k + 1)).sum = (xs.take k).sum + xs[k] := by
  rw [List.take_succ_eq_append_getElem hk, List.sum_append]
  simp
theorem sum_take_bd {xs : List Int} (h : okL xs = true) : ∀ k, k ≤ xs.length → 0 ≤ (xs.take k).sum ∧ (xs.take k).sum ≤ 30 * k
  | 0, _ => by simp
  | k + 1, hk => by
    have h1 := sum_take_bd h k (by omega)
    have h2 := okL_get h k (by omega)
    rw [sum_take_succ xs k (by omega)]
    omega
theorem sum_bd {xs : List Int} (h : okL xs = true) : 0 ≤ xs.sum ∧ xs.sum ≤ 90 := by
  have h1 := sum_take_bd h xs.length (Nat.le_refl _)
  rw [List.take_length] at h1
  have := okL_len h
  omega
theorem all_take_succ {xs : List Int} {k : Nat} (hk : k < xs.length) (h : (xs.take k).all rng = true) (hr : 0 ≤ xs[k] ∧ xs[k] ≤ 30) : (xs.take (k + 1)).all rng = true := by
  rw [List.take_succ_eq_append_getElem hk, List.all_append, h]
  simp [rng, hr]
theorem okL_bad {xs : List Int} {k : Nat} (hk : k < xs.length) (hr : ¬ (0 ≤ xs[k] ∧ xs[k] ≤ 30)) : okL xs = false := by
  cases h : okL xs with
  | false => rfl
  | true => exact absurd (okL_get h k hk) hr

/-- A call that only looks: it returns v, and the world is as it was, orders drawn apart. -/
def Look (v : Value) (w : World) : Ending → World → Prop := fun e w' => e = .returned v ∧ ∃ n, w' = w.drewN n

set_option maxHeartbeats 400000 in
theorem l1Parts_c (w : World) (v : Value) (xs : List Int) (h1 : tInt.row w v xs) : Calls Try.prog 123 #[v] w fun e w' => e = .returned (.bool (okL xs)) ∧ w = w' := by
  obtain ⟨A1, c1, rfl⟩ := h1.val
  have hm := h1.le
  go_enter Try.func123, Try.ntmps123
  go_wp2
  go_loop [3] (fun i => ∃ k : Nat, k ≤ xs.length ∧ i = .int .i64 k ∧ (xs.take k).all rng = true) (fun i => xs.length - (intOf i).toNat)
  case atStart => exact ⟨0, Nat.zero_le _, rfl, rfl⟩
  case round =>
    obtain ⟨k, hk, rfl, ha⟩ := hrel
    have Ha := Lib.hid ha
    clear ha
    by_cases hlt : k < xs.length
    · obtain ⟨ad1, rfl, g1⟩ := row_int_at h1 k hlt
      by_cases hr : 0 ≤ xs[k] ∧ xs[k] ≤ 30
      · have hd : decide (0 ≤ xs[k] ∧ xs[k] ≤ 30) = true := decide_eq_true hr
        go_wp2_with (go_at_call 61; (with_reducible refine (l6In_c _ _ _ _).mono ?_); rintro e w9 ⟨rfl, rfl⟩; rw [hd])
        go_round
        case rel => exact ⟨k + 1, by omega, by go_num, all_take_succ hlt Ha.out hr⟩
        case measure => simp [intOf]; omega
      · have hd : decide (0 ≤ xs[k] ∧ xs[k] ≤ 30) = false := decide_eq_false hr
        have ho := Lib.hid (okL_bad hlt hr)
        go_wp2_with (go_at_call 61; (with_reducible refine (l6In_c _ _ _ _).mono ?_); rintro e w9 ⟨rfl, rfl⟩; rw [hd])
        go_ret
        exact ⟨by rw [ho.out]; rfl, rfl⟩
    · obtain rfl : k = xs.length := by omega
      go_wp2
      go_ret
      refine ⟨?_, rfl⟩
      have e1 := Ha.out
      rw [List.take_length] at e1
      have e2 : okL xs = decide ((xs.length : Int) = 3) := by
        rw [okL, e1, Bool.and_true, Bool.eq_iff_iff]
        simp
        omega
      rw [e2]
      rfl

theorem l1Parts_r (w : World) (v : Value) (xs : List Int) {r : Bool} (h1 : tInt.row w v xs) (hr : okL xs = r) : Calls Try.prog 123 #[v] w fun e w' => e = .returned (.bool r) ∧ w = w' := by
  rw [← hr]
  exact l1Parts_c w v xs h1

set_option maxHeartbeats 400000 in
theorem l1All_c (w : World) (v : Value) (xs : List Int) (h1 : tInt.row w v xs) (ho : okL xs = true) : Calls Try.prog 124 #[v] w fun e w' => e = .returned (.int .i64 xs.sum) ∧ w = w' := by
  obtain ⟨A1, c1, rfl⟩ := h1.val
  have hm := h1.le
  have Ho := Lib.hid ho
  clear ho
  go_enter Try.func124, Try.ntmps124
  go_wp2
  go_loop [3, 4] (fun s i => ∃ k : Nat, k ≤ xs.length ∧ i = .int .i64 k ∧ s = .int .i64 (xs.take k).sum) (fun _ i => xs.length - (intOf i).toNat)
  case atStart => exact ⟨0, Nat.zero_le _, rfl, rfl⟩
  case round =>
    obtain ⟨k, hk, rfl, rfl⟩ := hrel
    have hb := sum_take_bd Ho.out k hk
    have hl := Lib.hid (okL_len Ho.out)
    have hl' : xs.length ≤ 3 := by have := hl.out; omega
    by_cases hlt : k < xs.length
    · obtain ⟨ad1, rfl, g1⟩ := row_int_at h1 k hlt
      have hg := okL_get Ho.out k hlt
      have hs := Lib.hid (sum_take_succ xs k hlt)
      go_wp2
      go_round
      case rel => exact ⟨k + 1, by omega, by go_num, by rw [hs.out]⟩
      case measure => simp [intOf]; omega
    · obtain rfl : k = xs.length := by omega
      go_wp2
      go_ret
      exact ⟨ret_int (by simp), rfl⟩

/-- What amountTotal hands back. -/
def totL (xs : List Int) : Int × Bool := if okL xs = true then (xs.sum, true) else (0, false)
set_option maxHeartbeats 400000 in
theorem amountTotal_c (w : World) (v : Value) (xs : List Int) (h1 : tInt.row w v xs) : Calls Try.prog 120 #[v] w fun e w' => e = .returned (.tuple #[.int .i64 (totL xs).1, .bool (totL xs).2]) ∧ w = w' := by
  obtain ⟨A1, c1, rfl⟩ := h1.val
  have hm := h1.le
  by_cases h3 : xs.length = 3
  · have H3 := Lib.hid h3
    have hl' : xs.length ≤ 3 := by omega
    have hc : ((xs.length : Int) == 3) = true := by rw [h3]; rfl
    have hc2 : ((xs.length : Int) != 3) = false := by rw [h3]; rfl
    clear h3
    go_enter Try.func120, Try.ntmps120
    go_wp2
    go_loop [4, 12] (fun s i => ∃ k : Nat, k ≤ xs.length ∧ i = .int .i64 k ∧ s = .int .i64 (xs.take k).sum ∧ (xs.take k).all rng = true ∧ 0 ≤ (xs.take k).sum ∧ (xs.take k).sum ≤ 30 * k) (fun _ i => xs.length - (intOf i).toNat)
    case atStart => exact ⟨0, Nat.zero_le _, rfl, rfl, rfl, by simp, by simp⟩
    case round =>
      obtain ⟨k, hk, rfl, rfl, ha, hb1, hb2⟩ := hrel
      have Ha := Lib.hid ha
      clear ha
      by_cases hlt : k < xs.length
      · obtain ⟨ad1, rfl, g1⟩ := row_int_at h1 k hlt
        have hs := Lib.hid (sum_take_succ xs k hlt)
        by_cases hr : 0 ≤ xs[k] ∧ xs[k] ≤ 30
        · obtain ⟨hr1, hr2⟩ := hr
          go_wp2
          go_round
          case rel => exact ⟨k + 1, by omega, by go_num, by rw [hs.out], all_take_succ hlt Ha.out ⟨hr1, hr2⟩, by rw [hs.out]; omega, by rw [hs.out]; omega⟩
          case measure => simp [intOf]; omega
        · have ho := Lib.hid (okL_bad hlt hr)
          by_cases hr1 : xs[k] < 0
          all_goals
            go_wp2
            go_ret2
            exact ⟨by simp only [totL, ho.out]; rfl, rfl⟩
      · obtain rfl : k = xs.length := by omega
        go_wp2
        go_ret2
        have e1 := Ha.out
        rw [List.take_length] at e1
        have e2 : okL xs = true := by rw [okL, e1, H3.out]; rfl
        exact ⟨by simp only [totL, e2, if_true]; rfl, rfl⟩
  · have ho : okL xs = false := by
      cases h : okL xs with
      | false => rfl
      | true => exact absurd (okL_len h) h3
    have Ho := Lib.hid ho
    clear ho
    have hc : ((xs.length : Int) == 3) = false := by rw [beq_eq_false_iff_ne]; omega
    have hc2 : ((xs.length : Int) != 3) = true := by rw [bne_iff_ne]; omega
    clear h3
    go_enter Try.func120, Try.ntmps120
    go_wp2
    go_ret2
    exact ⟨by simp only [totL, Ho.out]; rfl, rfl⟩

theorem totL_yes {xs : List Int} (h : okL xs = true) : totL xs = (xs.sum, true) := by simp [totL, h]
theorem totL_no {xs : List Int} (h : okL xs = false) : totL xs = (0, false) := by simp [totL, h]
set_option maxHeartbeats 800000 in
theorem BankOk_c (w : World) (b : Bk) (c1 : List Value) (h1 : tBk.rd w b c1) : Calls Try.prog 67 #[.agg c1.toArray] w (Ret (.bool (okBk b)) w) := by
  obtain ⟨v1, v2, rfl, h11, h12, h13, h14⟩ := h1
  have f := Fr.refl w
  cases o1 : okL b.own with
  | false =>
    have t1 := Lib.hid (totL_no o1)
    have r1 := Lib.hid (show okBk b = false by simp [okBk, o1])
    clear o1
    go_enter Try.func67, Try.ntmps67
    go_wp2_with (first
      | ((with_reducible refine gate_dst (N := 1) rfl ?_); refine wpList_box rfl _ _ rfl #[v1, v2, .int .i64 b.locked] rfl ?_; intro g_k1 w9 hg_k1 k1 f9; have zf_k1 := f.size; have hl_k1 := k1.lt; have z9 := f9.size; replace f := f.trans f9; (try clear r_k1); have r_k1 := k1.cells)
      | (go_at_call 120; (with_reducible refine (amountTotal_c _ v1 b.own (h11.fr f)).mono ?_); rintro e w9 ⟨rfl, rfl⟩; rw [t1.out]))
    go_ret
    exact ⟨by rw [r1.out]; rfl, f⟩
  | true =>
    have t1 := Lib.hid (totL_yes o1)
    have hs := sum_bd o1
    cases o2 : okL b.notes with
    | false =>
      have t2 := Lib.hid (totL_no o2)
      have r1 := Lib.hid (show okBk b = false by simp [okBk, o2])
      clear o1 o2
      go_enter Try.func67, Try.ntmps67
      go_wp2_with (first
        | ((with_reducible refine gate_dst (N := 1) rfl ?_); refine wpList_box rfl _ _ rfl #[v1, v2, .int .i64 b.locked] rfl ?_; intro g_k1 w9 hg_k1 k1 f9; have zf_k1 := f.size; have hl_k1 := k1.lt; have z9 := f9.size; replace f := f.trans f9; (try clear r_k1); have r_k1 := k1.cells)
        | (go_at_call 120; (with_reducible refine (amountTotal_c _ v1 b.own (h11.fr f)).mono ?_); rintro e w9 ⟨rfl, rfl⟩; rw [t1.out])
        | (go_at_call 120; (with_reducible refine (amountTotal_c _ v2 b.notes (h12.fr f)).mono ?_); rintro e w9 ⟨rfl, rfl⟩; rw [t2.out]))
      go_ret
      exact ⟨by rw [r1.out]; rfl, f⟩
    | true =>
      have t2 := Lib.hid (totL_yes o2)
      have hs2 := sum_bd o2
      have r1 := Lib.hid (show okBk b = (decide (0 ≤ b.locked) && decide (b.own.sum + b.locked = 30) && decide (b.notes.sum ≤ 30)) by simp [okBk, o1, o2])
      clear o1 o2
      generalize hS : b.own.sum = S at *
      generalize hT : b.notes.sum = T at *
      have HS := Lib.hid hS
      have HT := Lib.hid hT
      clear hS hT
      obtain ⟨hs0, hs1⟩ := hs
      by_cases e1 : 0 ≤ b.locked
      all_goals
        by_cases e2 : b.locked = 30 - S
        all_goals
          have e2b : (b.locked == 30 - S) = decide (b.locked = 30 - S) := rfl
          by_cases e3 : T ≤ 30
          all_goals
            simp only [e2, decide_true, decide_false] at e2b
            have E2 := Lib.hid e2
            clear e2
            go_enter Try.func67, Try.ntmps67
            go_wp2_with (first
              | ((with_reducible refine gate_dst (N := 1) rfl ?_); refine wpList_box rfl _ _ rfl #[v1, v2, .int .i64 b.locked] rfl ?_; intro g_k1 w9 hg_k1 k1 f9; have zf_k1 := f.size; have hl_k1 := k1.lt; have z9 := f9.size; replace f := f.trans f9; (try clear r_k1); have r_k1 := k1.cells)
              | (go_at_call 120; (with_reducible refine (amountTotal_c _ v1 b.own (h11.fr f)).mono ?_); rintro e w9 ⟨rfl, rfl⟩; rw [t1.out])
              | (go_at_call 120; (with_reducible refine (amountTotal_c _ v2 b.notes (h12.fr f)).mono ?_); rintro e w9 ⟨rfl, rfl⟩; rw [t2.out]))
            go_ret
            have e2 := E2.out
            refine ⟨ret_bool ?_, f⟩
            rw [r1.out, Bool.eq_iff_iff]
            simp
            omega

set_option maxHeartbeats 800000 in
theorem sBankOk_c (w : World) (b : Bk) (c1 : List Value) (h1 : tBk.rd w b c1) : Calls Try.prog 87 #[.agg c1.toArray] w (Ret (.bool (okBk b)) w) := by
  obtain ⟨v1, v2, rfl, h11, h12, h13, h14⟩ := h1
  have f := Fr.refl w
  have hr : ∀ r1 r2 p1 p2 p3 : Bool, okL b.own = r1 → okL b.notes = r2 → (r1 = true → r2 = true → decide (0 ≤ b.locked) = p1) → (r1 = true → r2 = true → p1 = true → (IntKind.i64.wrap (b.own.sum + b.locked) == 30) = p2) → (r1 = true → r2 = true → decide (b.notes.sum ≤ 30) = p3) →
      okBk b = (r1 && r2 && p1 && p2 && p3) := by
    intro r1 r2 p1 p2 p3 e1 e2 e3 e4 e5
    cases r1 with
    | false => simp [okBk, e1]
    | true =>
      cases r2 with
      | false => simp [okBk, e2]
      | true =>
        have hs := sum_bd e1
        rw [← e5 rfl rfl, okBk, e1, e2]
        have e3' := e3 rfl rfl
        cases p1 with
        | false => rw [e3']; rfl
        | true =>
          rw [e3', ← e4 rfl rfl rfl]
          have h0 : 0 ≤ b.locked := of_decide_eq_true e3'
          congr 2
          rw [Bool.eq_iff_iff]
          simp [IntKind.wrap, IntKind.bits, IntKind.signed]
          omega
  cases o1 : okL b.own with
  | false =>
    have e := Lib.hid (show okBk b = false by simp [okBk, o1])
    clear hr
    go_enter Try.func87, Try.ntmps87
    go_wp2_with ((with_reducible refine gate_dst (N := 1) rfl ?_); refine wpList_box rfl _ _ rfl #[v1, v2, .int .i64 b.locked] rfl ?_; intro g_k1 w9 hg_k1 k1 f9; have zf_k1 := f.size; have hl_k1 := k1.lt; have z9 := f9.size; replace f := f.trans f9; (try clear r_k1); have r_k1 := k1.cells)
    go_quiet ((go_at_call 123; with_reducible exact quiet_eq (l1Parts_r _ v1 b.own (h11.fr (f.drewN _)) o1)))
    go_wp2
    go_ret
    exact ⟨ret_bool (by rw [e.out]), f.drewN _⟩
  | true =>
    cases o2 : okL b.notes with
    | false =>
      have e := Lib.hid (show okBk b = false by simp [okBk, o2])
      clear hr
      go_enter Try.func87, Try.ntmps87
      go_wp2_with ((with_reducible refine gate_dst (N := 1) rfl ?_); refine wpList_box rfl _ _ rfl #[v1, v2, .int .i64 b.locked] rfl ?_; intro g_k1 w9 hg_k1 k1 f9; have zf_k1 := f.size; have hl_k1 := k1.lt; have z9 := f9.size; replace f := f.trans f9; (try clear r_k1); have r_k1 := k1.cells)
      go_quiet ((first | (go_at_call 123; with_reducible exact quiet_eq (l1Parts_r _ v1 b.own (h11.fr (f.drewN _)) o1)) | (go_at_call 123; with_reducible exact quiet_eq (l1Parts_r _ v2 b.notes (h12.fr (f.drewN _)) o2))))
      go_wp2
      go_ret
      exact ⟨ret_bool (by rw [e.out]), f.drewN _⟩
    | true =>
      by_cases p1 : 0 ≤ b.locked
      · cases p2 : (IntKind.i64.wrap (b.own.sum + b.locked) == 30) with
        | false =>
          have e := Lib.hid (show okBk b = false by rw [hr true true true false _ o1 o2 (fun _ _ => decide_eq_true p1) (fun _ _ _ => p2) (fun _ _ => rfl)]; rfl)
          clear hr
          go_enter Try.func87, Try.ntmps87
          go_wp2_with ((with_reducible refine gate_dst (N := 1) rfl ?_); refine wpList_box rfl _ _ rfl #[v1, v2, .int .i64 b.locked] rfl ?_; intro g_k1 w9 hg_k1 k1 f9; have zf_k1 := f.size; have hl_k1 := k1.lt; have z9 := f9.size; replace f := f.trans f9; (try clear r_k1); have r_k1 := k1.cells)
          go_quiet ((first | (go_at_call 123; with_reducible exact quiet_eq (l1Parts_r _ v1 b.own (h11.fr (f.drewN _)) o1)) | (go_at_call 123; with_reducible exact quiet_eq (l1Parts_r _ v2 b.notes (h12.fr (f.drewN _)) o2)) | (go_at_call 124; with_reducible exact quiet_eq (l1All_c _ v1 b.own (h11.fr (f.drewN _)) o1)) | (go_at_call 124; with_reducible exact quiet_eq (l1All_c _ v2 b.notes (h12.fr (f.drewN _)) o2))))
          go_wp2
          go_ret
          exact ⟨ret_bool (by rw [e.out]), f.drewN _⟩
        | true =>
          have e := Lib.hid (show okBk b = decide (b.notes.sum ≤ 30) by rw [hr true true true true _ o1 o2 (fun _ _ => decide_eq_true p1) (fun _ _ _ => p2) (fun _ _ => rfl)]; rfl)
          clear hr
          go_enter Try.func87, Try.ntmps87
          go_wp2_with ((with_reducible refine gate_dst (N := 1) rfl ?_); refine wpList_box rfl _ _ rfl #[v1, v2, .int .i64 b.locked] rfl ?_; intro g_k1 w9 hg_k1 k1 f9; have zf_k1 := f.size; have hl_k1 := k1.lt; have z9 := f9.size; replace f := f.trans f9; (try clear r_k1); have r_k1 := k1.cells)
          go_quiet ((first | (go_at_call 123; with_reducible exact quiet_eq (l1Parts_r _ v1 b.own (h11.fr (f.drewN _)) o1)) | (go_at_call 123; with_reducible exact quiet_eq (l1Parts_r _ v2 b.notes (h12.fr (f.drewN _)) o2)) | (go_at_call 124; with_reducible exact quiet_eq (l1All_c _ v1 b.own (h11.fr (f.drewN _)) o1)) | (go_at_call 124; with_reducible exact quiet_eq (l1All_c _ v2 b.notes (h12.fr (f.drewN _)) o2))))
          go_wp2
          go_ret
          exact ⟨ret_bool (by rw [e.out]), f.drewN _⟩
      · have e := Lib.hid (show okBk b = false by simp [okBk, p1])
        have p1' : decide (0 ≤ b.locked) = false := decide_eq_false p1
        clear hr
        go_enter Try.func87, Try.ntmps87
        go_wp2_with ((with_reducible refine gate_dst (N := 1) rfl ?_); refine wpList_box rfl _ _ rfl #[v1, v2, .int .i64 b.locked] rfl ?_; intro g_k1 w9 hg_k1 k1 f9; have zf_k1 := f.size; have hl_k1 := k1.lt; have z9 := f9.size; replace f := f.trans f9; (try clear r_k1); have r_k1 := k1.cells)
        go_quiet ((first | (go_at_call 123; with_reducible exact quiet_eq (l1Parts_r _ v1 b.own (h11.fr (f.drewN _)) o1)) | (go_at_call 123; with_reducible exact quiet_eq (l1Parts_r _ v2 b.notes (h12.fr (f.drewN _)) o2)) | (go_at_call 124; with_reducible exact quiet_eq (l1All_c _ v1 b.own (h11.fr (f.drewN _)) o1)) | (go_at_call 124; with_reducible exact quiet_eq (l1All_c _ v2 b.notes (h12.fr (f.drewN _)) o2))))
        go_wp2
        go_ret
        exact ⟨ret_bool (by rw [e.out]), f.drewN _⟩
end Go.Proofs.Ytapdcgjccckjeaa
namespace Go.Proofs.Ytapdcgjccckjeaa
set_option maxRecDepth 100000
set_option linter.unusedVariables false
set_option linter.unusedSimpArgs false
open Go.RowKit
section
variable {F0 : List Nat} {w0 w : World} {L : List Asrt} {b : Bk} {cs : List Value} {F : List Nat}
theorem orow_cap {α : Type} {d : Ty α} {e : Nat} {A : Option Addr} {n c : Nat} {xs : List α} {G : List Nat} (h : d.orow e w (.slice A n c) xs G) : n = xs.length ∧ n ≤ c := by
  obtain ⟨A', c', e1, h1, _⟩ := h.row
  simp only [Value.slice.injEq] at e1
  obtain ⟨rfl, rfl, rfl⟩ := e1
  exact ⟨rfl, h1.1⟩
theorem Sep.openBk (S : Sep F0 w0 (aOwn tBk b cs F :: L) w) : ∃ v1 v2 F1 F2, cs = [v1, v2, .int .i64 b.locked] ∧ F = F1 ++ F2 ∧ I64 b.locked ∧ Sep F0 w0 (aRow tInt 3 b.own v1 F1 :: aRow tInt 3 b.notes v2 F2 :: L) w := by
  have h := S.own (d := tBk) (x := b) (cs := cs) (F := F) (by simp)
  obtain ⟨v1, v2, F1, F2, rfl, rfl, h1, h2, h3⟩ := h
  refine ⟨v1, v2, F1, F2, rfl, rfl, h3, S.conv [aRow tInt 3 b.own v1 F1, aRow tInt 3 b.notes v2 F2] (by simp [fps, aRow, aOwn]) ?_⟩
  intro x hx
  simp only [List.mem_cons, List.not_mem_nil, or_false] at hx
  rcases hx with rfl | rfl
  · exact h1
  · exact h2
theorem Sep.openBk3 (S : Sep F0 w0 (aOwn tBk b cs F :: L) w) (l1 : b.own.length = 3) (l2 : b.notes.length = 3) : ∃ g1 c1 g2 c2 F1 F2, cs = [.slice (some ⟨g1, 0, none⟩) 3 c1, .slice (some ⟨g2, 0, none⟩) 3 c2, .int .i64 b.locked] ∧ F = F1 ++ F2 ∧ 3 ≤ c1 ∧ I64 b.locked ∧
    Sep F0 w0 (aRow tInt 3 b.own (.slice (some ⟨g1, 0, none⟩) 3 c1) F1 :: aRow tInt 3 b.notes (.slice (some ⟨g2, 0, none⟩) 3 c2) F2 :: L) w := by
  obtain ⟨v1, v2, F1, F2, rfl, rfl, hI, S'⟩ := S.openBk
  have h1 := S'.row (d := tInt) (xs := b.own) (v := v1) (F := F1) (e := 3) (by simp)
  have h2 := S'.row (d := tInt) (xs := b.notes) (v := v2) (F := F2) (e := 3) (by simp)
  obtain ⟨g1, c1, rfl⟩ := h1.shape (by omega)
  obtain ⟨g2, c2, rfl⟩ := h2.shape (by omega)
  have := orow_cap h1
  rw [l1, l2] at S'
  rw [l1, l2]
  exact ⟨g1, c1, g2, c2, F1, F2, rfl, rfl, by omega, hI, S'⟩
theorem Sep.shutBk {xs ys : List Int} {v1 v2 : Value} {F1 F2 : List Nat} {l : Int} (S : Sep F0 w0 (aRow tInt 3 xs v1 F1 :: aRow tInt 3 ys v2 F2 :: L) w) (hI : I64 l) : Sep F0 w0 (aOwn tBk ⟨xs, ys, l⟩ [v1, v2, .int .i64 l] (F1 ++ F2) :: L) w := by
  refine Sep.join [aRow tInt 3 xs v1 F1, aRow tInt 3 ys v2 F2] S _ (by simp [fps, aRow, aOwn]) fun h => ?_
  exact ⟨v1, v2, F1, F2, rfl, rfl, h (aRow tInt 3 xs v1 F1) (by simp), h (aRow tInt 3 ys v2 F2) (by simp), hI⟩
end
end Go.Proofs.Ytapdcgjccckjeaa
namespace Go.Proofs.Ytapdcgjccckjeaa
set_option maxRecDepth 100000
set_option linter.unusedVariables false
set_option linter.unusedSimpArgs false
open Go.RowKit
structure Ch where
  id : Int
  bank : Bk
  st : St
  past : List St
  knows : List Int
def tCh : Ty Ch where
  sz := 13
  rd := fun w c cs => ∃ b1 b2 s1 s2 s3 s4 v1 v2, cs = [.int .i64 c.id, b1, b2, .int .i64 c.bank.locked, .int .i64 c.st.way, .int .i64 c.st.vsn, .int .i64 c.st.want, s1, s2, s3, s4, v1, v2] ∧ tBk.rd w c.bank [b1, b2, .int .i64 c.bank.locked] ∧ tSt.rd w c.st [.int .i64 c.st.way, .int .i64 c.st.vsn, .int .i64 c.st.want, s1, s2, s3, s4] ∧ tSt.row w v1 c.past ∧ tInt.row w v2 c.knows ∧ I64 c.id
  own := fun w c cs F => ∃ b1 b2 s1 s2 s3 s4 v1 v2 F1 F2 F3 F4, cs = [.int .i64 c.id, b1, b2, .int .i64 c.bank.locked, .int .i64 c.st.way, .int .i64 c.st.vsn, .int .i64 c.st.want, s1, s2, s3, s4, v1, v2] ∧ F = F1 ++ (F2 ++ (F3 ++ F4)) ∧ tBk.own w c.bank [b1, b2, .int .i64 c.bank.locked] F1 ∧ tSt.own w c.st [.int .i64 c.st.way, .int .i64 c.st.vsn, .int .i64 c.st.want, s1, s2, s3, s4] F2 ∧ tSt.orow 30 w v1 c.past F3 ∧ tInt.orow 3 w v2 c.knows F4 ∧ I64 c.id
  len := by rintro w x cs ⟨b1, b2, s1, s2, s3, s4, v1, v2, rfl, _⟩; rfl
  fr := by rintro w w' x cs f ⟨b1, b2, s1, s2, s3, s4, v1, v2, rfl, h1, h2, h3, h4, h5⟩; exact ⟨b1, b2, s1, s2, s3, s4, v1, v2, rfl, tBk.fr f h1, tSt.fr f h2, h3.fr f, h4.fr f, h5⟩
  own_rd := by rintro w x cs F ⟨b1, b2, s1, s2, s3, s4, v1, v2, F1, F2, F3, F4, rfl, rfl, h1, h2, h3, h4, h5⟩; exact ⟨b1, b2, s1, s2, s3, s4, v1, v2, rfl, tBk.own_rd h1, tSt.own_rd h2, h3.row, h4.row, h5⟩
  own_lt := by
    rintro w x cs F ⟨b1, b2, s1, s2, s3, s4, v1, v2, F1, F2, F3, F4, rfl, rfl, h1, h2, h3, h4, h5⟩ g hg
    rcases List.mem_append.1 hg with hg | hg
    · exact tBk.own_lt h1 g hg
    rcases List.mem_append.1 hg with hg | hg
    · exact tSt.own_lt h2 g hg
    rcases List.mem_append.1 hg with hg | hg
    · exact h3.lt g hg
    · exact h4.lt g hg
  keep := by
    rintro w w' x cs F ⟨b1, b2, s1, s2, s3, s4, v1, v2, F1, F2, F3, F4, rfl, rfl, h1, h2, h3, h4, h5⟩ hk
    exact ⟨b1, b2, s1, s2, s3, s4, v1, v2, F1, F2, F3, F4, rfl, rfl, tBk.keep h1 (fun g hg => hk g (List.mem_append_left _ hg)), tSt.keep h2 (fun g hg => hk g (List.mem_append_right _ (List.mem_append_left _ hg))), h3.keep (fun g hg => hk g (List.mem_append_right _ (List.mem_append_right _ (List.mem_append_left _ hg)))), h4.keep (fun g hg => hk g (List.mem_append_right _ (List.mem_append_right _ (List.mem_append_right _ hg)))), h5⟩
  one := by
    rintro w x cs F ⟨b1, b2, s1, s2, s3, s4, v1, v2, F1, F2, F3, F4, rfl, rfl, h1, h2, h3, h4, h5⟩ u hu
    have o1 := tBk.one h1
    have o2 := tSt.one h2
    simp only [List.mem_cons, List.not_mem_nil, or_false] at hu
    rcases hu with rfl | rfl | rfl | rfl | rfl | rfl | rfl | rfl | rfl | rfl | rfl | rfl | rfl
    · rfl
    · exact o1 _ (by simp)
    · exact o1 _ (by simp)
    · rfl
    · rfl
    · rfl
    · rfl
    · exact o2 _ (by simp)
    · exact o2 _ (by simp)
    · exact o2 _ (by simp)
    · exact o2 _ (by simp)
    · exact h3.one
    · exact h4.one
def cntCh (c : Ch) : Nat := cntBk c.bank + (cntSt c.st + ((c.past.length + cntStS c.past) + c.knows.length))
def cntMCh (c : Ch) : Nat := cntBk c.bank + (cntMSt c.st + (cntMStS c.past + c.knows.length))
def markCh (q : Int) (c : Ch) : Ch := { c with bank := markBk q c.bank, st := markSt (q + cntBk c.bank) c.st, past := marksS (q + cntBk c.bank + cntMSt c.st) c.past, knows := marksI (q + cntBk c.bank + cntMSt c.st + cntMStS c.past) c.knows.length }
def SmallCh (c : Ch) : Prop := (c.bank.own.length ≤ 2097152 ∧ c.bank.notes.length ≤ 2097152) ∧ Small c.st ∧ (∀ k (h : k < c.past.length), Small c.past[k]) ∧ cntMStS c.past ≤ 1000000000 ∧ c.knows.length ≤ 2097152
theorem cntMCh_le {c : Ch} (h : cntCh c ≤ 1048576) : cntMCh c ≤ 7 * 1048576 := by
  have h1 := cntMStS_bd c.past
  have h2 := cntMSt_le (s := c.st)
  unfold cntCh at h
  unfold cntMCh
  omega
section
variable {F0 : List Nat} {w0 w : World} {L : List Asrt} {c : Ch} {cs : List Value} {F : List Nat}
theorem Sep.openCh (S : Sep F0 w0 (aOwn tCh c cs F :: L) w) : ∃ b1 b2 s1 s2 s3 s4 A1 n1 A2 n2 F1 F2 F3 F4, cs = [.int .i64 c.id, b1, b2, .int .i64 c.bank.locked, .int .i64 c.st.way, .int .i64 c.st.vsn, .int .i64 c.st.want, s1, s2, s3, s4, .slice A1 c.past.length n1, .slice A2 c.knows.length n2] ∧ F = F1 ++ (F2 ++ (F3 ++ F4)) ∧ I64 c.id ∧
    Sep F0 w0 (aOwn tBk c.bank [b1, b2, .int .i64 c.bank.locked] F1 :: aOwn tSt c.st [.int .i64 c.st.way, .int .i64 c.st.vsn, .int .i64 c.st.want, s1, s2, s3, s4] F2 :: aRow tSt 30 c.past (.slice A1 c.past.length n1) F3 :: aRow tInt 3 c.knows (.slice A2 c.knows.length n2) F4 :: L) w := by
  have h := S.own (d := tCh) (x := c) (cs := cs) (F := F) (by simp)
  obtain ⟨b1, b2, s1, s2, s3, s4, v1, v2, F1, F2, F3, F4, rfl, rfl, h1, h2, h3, h4, h5⟩ := h
  obtain ⟨A1, n1, rfl⟩ := h3.row.val
  obtain ⟨A2, n2, rfl⟩ := h4.row.val
  refine ⟨b1, b2, s1, s2, s3, s4, A1, n1, A2, n2, F1, F2, F3, F4, rfl, rfl, h5, S.conv [aOwn tBk c.bank _ F1, aOwn tSt c.st _ F2, aRow tSt 30 c.past _ F3, aRow tInt 3 c.knows _ F4] (by simp [fps, aRow, aOwn]) ?_⟩
  intro x hx
  simp only [List.mem_cons, List.not_mem_nil, or_false] at hx
  rcases hx with rfl | rfl | rfl | rfl
  · exact h1
  · exact h2
  · exact h3
  · exact h4
theorem Sep.shutCh {i l x y z : Int} {xs ys : List Int} {ps : List Pk} {bs ds : List Bool} {gs : List Int} {ss : List St} {ks : List Int} {b1 b2 s1 s2 s3 s4 v1 v2 : Value} {F1 F2 F3 F4 : List Nat} (S : Sep F0 w0 (aOwn tBk ⟨xs, ys, l⟩ [b1, b2, .int .i64 l] F1 :: aOwn tSt ⟨x, y, z, ps, bs, ds, gs⟩ [.int .i64 x, .int .i64 y, .int .i64 z, s1, s2, s3, s4] F2 :: aRow tSt 30 ss v1 F3 :: aRow tInt 3 ks v2 F4 :: L) w) (hI : I64 i) :
    Sep F0 w0 (aOwn tCh ⟨i, ⟨xs, ys, l⟩, ⟨x, y, z, ps, bs, ds, gs⟩, ss, ks⟩ [.int .i64 i, b1, b2, .int .i64 l, .int .i64 x, .int .i64 y, .int .i64 z, s1, s2, s3, s4, v1, v2] (F1 ++ (F2 ++ (F3 ++ F4))) :: L) w := by
  refine Sep.join [aOwn tBk ⟨xs, ys, l⟩ [b1, b2, .int .i64 l] F1, aOwn tSt ⟨x, y, z, ps, bs, ds, gs⟩ [.int .i64 x, .int .i64 y, .int .i64 z, s1, s2, s3, s4] F2, aRow tSt 30 ss v1 F3, aRow tInt 3 ks v2 F4] S _ (by simp [fps, aRow, aOwn]) fun h => ?_
  exact ⟨b1, b2, s1, s2, s3, s4, v1, v2, F1, F2, F3, F4, rfl, rfl, h (aOwn tBk ⟨xs, ys, l⟩ [b1, b2, .int .i64 l] F1) (by simp), h (aOwn tSt ⟨x, y, z, ps, bs, ds, gs⟩ [.int .i64 x, .int .i64 y, .int .i64 z, s1, s2, s3, s4] F2) (by simp), h (aRow tSt 30 ss v1 F3) (by simp), h (aRow tInt 3 ks v2 F4) (by simp), hI⟩
/-- The same, by its parts' names. -/
theorem Sep.shutCh' {b : Bk} {s : St} {i : Int} {ss : List St} {ks : List Int} {b1 b2 s1 s2 s3 s4 v1 v2 : Value} {F1 F2 F3 F4 : List Nat} (S : Sep F0 w0 (aOwn tBk b [b1, b2, .int .i64 b.locked] F1 :: aOwn tSt s [.int .i64 s.way, .int .i64 s.vsn, .int .i64 s.want, s1, s2, s3, s4] F2 :: aRow tSt 30 ss v1 F3 :: aRow tInt 3 ks v2 F4 :: L) w) (hI : I64 i) :
    Sep F0 w0 (aOwn tCh ⟨i, b, s, ss, ks⟩ [.int .i64 i, b1, b2, .int .i64 b.locked, .int .i64 s.way, .int .i64 s.vsn, .int .i64 s.want, s1, s2, s3, s4, v1, v2] (F1 ++ (F2 ++ (F3 ++ F4))) :: L) w := S.shutCh hI
end
/-- A chain put together out of its eight rows, wherever they stand. -/
theorem Sep.allCh {F0 : List Nat} {w0 w : World} {L L1 L2 L3 L4 L5 L6 L7 L8 : List Asrt} {x1 x2 v1 v2 v3 v4 u1 u2 : Value} {Y1 Y2 Z1 Z2 Z3 Z4 P1 K1 : List Nat} (c : Ch) (S : Sep F0 w0 L w) (I9 : I64 c.bank.locked) (J9 : I64 c.st.way ∧ I64 c.st.vsn ∧ I64 c.st.want) (h15 : I64 c.id) (p1 : Del L (aRow tInt 3 c.knows u2 K1) L1 := by (repeat (first | with_reducible exact Del.head _ _ | with_reducible apply Del.tail)) <;> fail) (p2 : Del L1 (aRow tSt 30 c.past u1 P1) L2 := by (repeat (first | with_reducible exact Del.head _ _ | with_reducible apply Del.tail)) <;> fail) (p3 : Del L2 (aRow tInt 3 c.st.got v4 Z4) L3 := by (repeat (first | with_reducible exact Del.head _ _ | with_reducible apply Del.tail)) <;> fail) (p4 : Del L3 (aRow tBool 4 c.st.back v3 Z3) L4 := by (repeat (first | with_reducible exact Del.head _ _ | with_reducible apply Del.tail)) <;> fail) (p5 : Del L4 (aRow tBool 4 c.st.live v2 Z2) L5 := by (repeat (first | with_reducible exact Del.head _ _ | with_reducible apply Del.tail)) <;> fail) (p6 : Del L5 (aRow tPk 88 c.st.sent v1 Z1) L6 := by (repeat (first | with_reducible exact Del.head _ _ | with_reducible apply Del.tail)) <;> fail) (p7 : Del L6 (aRow tInt 3 c.bank.notes x2 Y2) L7 := by (repeat (first | with_reducible exact Del.head _ _ | with_reducible apply Del.tail)) <;> fail) (p8 : Del L7 (aRow tInt 3 c.bank.own x1 Y1) L8 := by (repeat (first | with_reducible exact Del.head _ _ | with_reducible apply Del.tail)) <;> fail) :
    Sep F0 w0 (aOwn tCh c [.int .i64 c.id, x1, x2, .int .i64 c.bank.locked, .int .i64 c.st.way, .int .i64 c.st.vsn, .int .i64 c.st.want, v1, v2, v3, v4, u1, u2] ((Y1 ++ Y2) ++ ((Z1 ++ (Z2 ++ (Z3 ++ Z4))) ++ (P1 ++ K1))) :: L8) w := by
  have S1 := (((((((S.pull p1).pull (.tail _ p2)).pull (.tail _ (.tail _ p3))).pull (.tail _ (.tail _ (.tail _ p4)))).pull (.tail _ (.tail _ (.tail _ (.tail _ p5))))).pull (.tail _ (.tail _ (.tail _ (.tail _ (.tail _ p6)))))).pull (.tail _ (.tail _ (.tail _ (.tail _ (.tail _ (.tail _ p7))))))).pull (.tail _ (.tail _ (.tail _ (.tail _ (.tail _ (.tail _ (.tail _ p8)))))))
  refine Sep.join [aRow tInt 3 c.bank.own x1 Y1, aRow tInt 3 c.bank.notes x2 Y2, aRow tPk 88 c.st.sent v1 Z1, aRow tBool 4 c.st.live v2 Z2, aRow tBool 4 c.st.back v3 Z3, aRow tInt 3 c.st.got v4 Z4, aRow tSt 30 c.past u1 P1, aRow tInt 3 c.knows u2 K1] S1 _ (by simp [fps, aRow, aOwn]) fun h => ?_
  exact ⟨x1, x2, v1, v2, v3, v4, u1, u2, Y1 ++ Y2, Z1 ++ (Z2 ++ (Z3 ++ Z4)), P1, K1, rfl, rfl, ⟨x1, x2, Y1, Y2, rfl, rfl, h (aRow tInt 3 c.bank.own x1 Y1) (by simp), h (aRow tInt 3 c.bank.notes x2 Y2) (by simp), I9⟩, ⟨v1, v2, v3, v4, Z1, Z2, Z3, Z4, rfl, rfl, h (aRow tPk 88 c.st.sent v1 Z1) (by simp), h (aRow tBool 4 c.st.live v2 Z2) (by simp), h (aRow tBool 4 c.st.back v3 Z3) (by simp), h (aRow tInt 3 c.st.got v4 Z4) (by simp), J9⟩, h (aRow tSt 30 c.past u1 P1) (by simp), h (aRow tInt 3 c.knows u2 K1) (by simp), h15⟩
set_option maxHeartbeats 3200000 in
theorem eqChain_c (w : World) (c : Ch) (c1 c2 : List Value) (h1 : tCh.rd w c c1) (h2 : tCh.rd w c c2) : Calls Try.prog 24 #[.agg c1.toArray, .agg c2.toArray] w (Ret (.bool true) w) := by
  obtain ⟨b1, b2, s1, s2, s3, s4, v1, v2, rfl, h11, h12, h13, h14, _⟩ := h1
  obtain ⟨d1, d2, t1, t2, t3, t4, u1, u2, rfl, h21, h22, h23, h24, _⟩ := h2
  have S := Sep.start w
  go_enter Try.func24, Try.ntmps24
  go_wp2_with (first
    | (go_at_call 70; (with_reducible refine (eqBank_c _ c.bank _ _ (tBk.fr S.frame h11) (tBk.fr S.frame h21)).mono ?_); rintro e w9 ⟨rfl, f9⟩; replace S := S.fr f9; clear f9)
    | (go_at_call 43; (with_reducible refine (eqState_c _ c.st _ _ (tSt.fr S.frame h12) (tSt.fr S.frame h22)).mono ?_); rintro e w9 ⟨rfl, f9⟩; replace S := S.fr f9; clear f9)
    | (go_at_call 71; (with_reducible refine (eqStateS_c _ _ _ c.past (h13.fr S.frame) (h23.fr S.frame)).mono ?_); rintro e w9 ⟨rfl, f9⟩; replace S := S.fr f9; clear f9)
    | (go_at_call 72; (with_reducible refine (eqIntS_c _ _ _ c.knows (h14.fr S.frame) (h24.fr S.frame)).mono ?_); rintro e w9 ⟨rfl, f9⟩; replace S := S.fr f9; clear f9)
    | ((with_reducible refine gate_box rfl ?_); refine aBx S ?_; clear S; intro g9 w9 z9 S) | ((with_reducible refine gate_load rfl ?_); first | refine aLd S ?_ | refine aPt S ?_ | refine aL1 S ?_))
  go_ret
  exact ⟨rfl, S.frame⟩
set_option maxHeartbeats 3200000 in
theorem szChain_c (w : World) (c : Ch) (c1 : List Value) (left : Int) (h1 : tCh.rd w c c1) (hl0 : 0 ≤ left) (hl1 : left ≤ 1048576) :
    Calls Try.prog 32 #[.agg c1.toArray, .int .i64 left] w (Ret (.int .i64 (szr left (cntCh c))) w) := by
  obtain ⟨b1, b2, s1, s2, s3, s4, v1, v2, rfl, h11, h12, h13, h14, _⟩ := h1
  have S := Sep.start w
  obtain ⟨n1, hn1⟩ : ∃ n, cntBk c.bank = n := ⟨_, rfl⟩
  obtain ⟨n2, hn2⟩ : ∃ n, cntSt c.st = n := ⟨_, rfl⟩
  obtain ⟨n3, hn3⟩ : ∃ n, c.past.length + cntStS c.past = n := ⟨_, rfl⟩
  have hc : cntCh c = n1 + (n2 + (n3 + c.knows.length)) := by unfold cntCh; omega
  have N1 := Lib.hid hn1
  have N2 := Lib.hid hn2
  have N3 := Lib.hid hn3
  have HC := Lib.hid hc
  clear hn1 hn2 hn3 hc
  by_cases e1 : (n1 : Int) ≤ left
  case neg =>
    have E := Lib.hid (show szr left (cntCh c) = -1 from szr_no (by rw [HC.out]; omega))
    have s1 := Lib.hid (szr_no e1)
    go_enter Try.func32, Try.ntmps32
    go_wp2_with (first
      | (go_at_call 84; (with_reducible refine (szBank_c _ c.bank _ left (tBk.fr S.frame h11) hl0 hl1).mono ?_); rintro e w9 ⟨rfl, f9⟩; rw [N1.out, s1.out]; replace S := S.fr f9; clear f9)
      | ((with_reducible refine gate_box rfl ?_); refine aBx S ?_; clear S; intro g9 w9 z9 S) | ((with_reducible refine gate_load rfl ?_); first | refine aLd S ?_ | refine aPt S ?_ | refine aL1 S ?_))
    go_ret
    exact ⟨ret_int E.out.symm, S.frame⟩
  have s1 := Lib.hid (szr_yes e1)
  by_cases e2 : (n2 : Int) ≤ left - n1
  case neg =>
    have E := Lib.hid (show szr left (cntCh c) = -1 from szr_no (by rw [HC.out]; omega))
    have s2 := Lib.hid (szr_no e2)
    go_enter Try.func32, Try.ntmps32
    go_wp2_with (first
      | (go_at_call 84; (with_reducible refine (szBank_c _ c.bank _ left (tBk.fr S.frame h11) hl0 hl1).mono ?_); rintro e w9 ⟨rfl, f9⟩; rw [N1.out, s1.out]; replace S := S.fr f9; clear f9)
      | (go_at_call 50; (with_reducible refine (szState_c _ c.st _ (left - n1) (tSt.fr S.frame h12) (by omega) (by omega)).mono ?_); rintro e w9 ⟨rfl, f9⟩; rw [N2.out, s2.out]; replace S := S.fr f9; clear f9)
      | ((with_reducible refine gate_box rfl ?_); refine aBx S ?_; clear S; intro g9 w9 z9 S) | ((with_reducible refine gate_load rfl ?_); first | refine aLd S ?_ | refine aPt S ?_ | refine aL1 S ?_))
    go_ret
    exact ⟨ret_int E.out.symm, S.frame⟩
  have s2 := Lib.hid (szr_yes e2)
  by_cases e3 : (n3 : Int) ≤ left - n1 - n2
  case neg =>
    have E := Lib.hid (show szr left (cntCh c) = -1 from szr_no (by rw [HC.out]; omega))
    have s3 := Lib.hid (szr_no e3)
    go_enter Try.func32, Try.ntmps32
    go_wp2_with (first
      | (go_at_call 84; (with_reducible refine (szBank_c _ c.bank _ left (tBk.fr S.frame h11) hl0 hl1).mono ?_); rintro e w9 ⟨rfl, f9⟩; rw [N1.out, s1.out]; replace S := S.fr f9; clear f9)
      | (go_at_call 50; (with_reducible refine (szState_c _ c.st _ (left - n1) (tSt.fr S.frame h12) (by omega) (by omega)).mono ?_); rintro e w9 ⟨rfl, f9⟩; rw [N2.out, s2.out]; replace S := S.fr f9; clear f9)
      | (go_at_call 85; (with_reducible refine (szStateS_c _ _ c.past (left - n1 - n2) (h13.fr S.frame) (by omega) (by omega)).mono ?_); rintro e w9 ⟨rfl, f9⟩; rw [N3.out, s3.out]; replace S := S.fr f9; clear f9)
      | ((with_reducible refine gate_box rfl ?_); refine aBx S ?_; clear S; intro g9 w9 z9 S) | ((with_reducible refine gate_load rfl ?_); first | refine aLd S ?_ | refine aPt S ?_ | refine aL1 S ?_))
    go_ret
    exact ⟨ret_int E.out.symm, S.frame⟩
  have s3 := Lib.hid (szr_yes e3)
  obtain ⟨r, hr⟩ : ∃ r, szr (left - n1 - n2 - n3) c.knows.length = r := ⟨_, rfl⟩
  have E := Lib.hid (show szr left (cntCh c) = r by
    rw [← hr, HC.out]
    unfold szr
    split <;> split <;> omega)
  have hneg : r < 0 → r = -1 := by
    intro h
    rw [← hr] at h ⊢
    unfold szr at *
    split at h
    · omega
    · rename_i h2; rw [if_neg h2]
  have s4 := Lib.hid hr
  have HN := Lib.hid hneg
  clear hr hneg
  go_enter Try.func32, Try.ntmps32
  go_wp2_with (first
    | (go_at_call 84; (with_reducible refine (szBank_c _ c.bank _ left (tBk.fr S.frame h11) hl0 hl1).mono ?_); rintro e w9 ⟨rfl, f9⟩; rw [N1.out, s1.out]; replace S := S.fr f9; clear f9)
    | (go_at_call 50; (with_reducible refine (szState_c _ c.st _ (left - n1) (tSt.fr S.frame h12) (by omega) (by omega)).mono ?_); rintro e w9 ⟨rfl, f9⟩; rw [N2.out, s2.out]; replace S := S.fr f9; clear f9)
    | (go_at_call 85; (with_reducible refine (szStateS_c _ _ c.past (left - n1 - n2) (h13.fr S.frame) (by omega) (by omega)).mono ?_); rintro e w9 ⟨rfl, f9⟩; rw [N3.out, s3.out]; replace S := S.fr f9; clear f9)
    | (go_at_call 86; (with_reducible refine (szIntS_c _ _ c.knows (left - n1 - n2 - n3) (h14.fr S.frame) (by omega) (by omega)).mono ?_); rintro e w9 ⟨rfl, f9⟩; rw [s4.out]; replace S := S.fr f9; clear f9)
    | ((with_reducible refine gate_box rfl ?_); refine aBx S ?_; clear S; intro g9 w9 z9 S) | ((with_reducible refine gate_load rfl ?_); first | refine aLd S ?_ | refine aPt S ?_ | refine aL1 S ?_))
  all_goals go_ret
  · exact ⟨ret_int (by rw [E.out]; exact (HN.out (by assumption)).symm), S.frame⟩
  · exact ⟨ret_int E.out.symm, S.frame⟩
set_option maxHeartbeats 3200000 in
theorem toChain_c (w : World) (c : Ch) (c1 : List Value) (h1 : tCh.rd w c c1) (hb : cntCh c ≤ 1048576) : Calls Try.prog 34 #[.agg c1.toArray] w (RetOwn tCh c w) := by
  obtain ⟨b1, b2, s1, s2, s3, s4, v1, v2, rfl, h11, h12, h13, h14, h15⟩ := h1
  have hc : (c.bank.own.length ≤ 1048576 ∧ c.bank.notes.length ≤ 1048576) ∧ cntSt c.st ≤ 1048576 ∧ c.past.length ≤ 1048576 ∧ cntStS c.past ≤ 1048576 ∧ c.knows.length ≤ 1048576 := by unfold cntCh cntBk at hb; omega
  obtain ⟨hb1, hb2, hb3, hb4, hb5⟩ := hc
  have S := Sep.start w
  go_enter Try.func34, Try.ntmps34
  go_wp2_with (first
    | (go_at_call 89; (with_reducible refine (toBank_c _ c.bank _ (tBk.fr S.frame h11) hb1).mono ?_); rintro e w9 ⟨cs9, F9, rfl, h9, n9, b9, f9⟩; replace S := S.new (aOwn tBk _ cs9 F9) h9 n9 b9 f9; clear h9 n9 b9 f9; obtain ⟨x1, x2, Y1, Y2, rfl, rfl, I9, S⟩ := S.openBk)
    | (go_at_call 52; (with_reducible refine (toState_c _ c.st _ (tSt.fr S.frame h12) hb2).mono ?_); rintro e w9 ⟨cs9, F9, rfl, h9, n9, b9, f9⟩; replace S := S.new (aOwn tSt _ cs9 F9) h9 n9 b9 f9; clear h9 n9 b9 f9; obtain ⟨A1, n1, A2, n2, A3, n3, A4, n4, Z1, Z2, Z3, Z4, rfl, rfl, J9, S⟩ := S.openSt)
    | (go_at_call 90; (with_reducible refine (toStateS_c _ _ c.past (h13.fr S.frame) hb3 hb4).mono ?_); rintro e w9 ⟨v9, F9, rfl, h9, n9, b9, f9⟩; obtain ⟨A9, c9, rfl⟩ := h9.row.val; replace S := S.new (aRow tSt 30 _ (.slice A9 _ c9) F9) h9 n9 b9 f9; clear h9 n9 b9 f9)
    | (go_at_call 91; (with_reducible refine (toIntS_c _ _ c.knows (h14.fr S.frame) hb5).mono ?_); rintro e w9 ⟨v9, F9, rfl, h9, n9, b9, f9⟩; obtain ⟨A9, c9, rfl⟩ := h9.row.val; replace S := S.new (aRow tInt 3 _ (.slice A9 _ c9) F9) h9 n9 b9 f9; clear h9 n9 b9 f9)
    | ((with_reducible refine gate_box rfl ?_); refine aBx S ?_; clear S; intro g9 w9 z9 S) | ((with_reducible refine gate_alloc rfl ?_); refine aAl S ?_; clear S; intro g9 w9 z9 S) | ((with_reducible refine gate_load rfl ?_); first | refine aLd S ?_ | refine aPt S ?_ | refine aL1 S ?_) | ((with_reducible refine gate_st rfl ?_); (first | refine aS1 S ?_ | refine aSt S ?_ | refine aSp S ?_); clear S; intro w9 S))
  have S' := S.allCh c I9 J9 h15
  (refine Sep.ret1 S rfl rfl memA Try.underlying33 rfl ts33 rfl ?_)
  exact S'.retOwn List.mem_cons_self
set_option maxHeartbeats 3200000 in
theorem markChain_c (w : World) (c : Ch) (cs : List Value) (F : List Nat) (q : Int) (h1 : tCh.own w c cs F) (hn : F.Nodup) (hq0 : 0 ≤ q) (hq1 : q ≤ 100000000000) (hc : cntMStS c.past ≤ 1000000000) :
    Calls Try.prog 25 #[.agg cs.toArray, .int .i64 q] w (RetMk tCh (q + cntMCh c) (markCh q c) cs F w) := by
  have S := Sep.startOwn h1 hn
  obtain ⟨b1, b2, s1, s2, s3, s4, A1, n1, A2, n2, F1, F2, F3, F4, rfl, rfl, hI, S⟩ := S.openCh
  have l3 := (S.row (d := tInt) (xs := c.knows) memA).le
  have hB : cntBk c.bank ≤ 4194304 := by
    obtain ⟨_, _, _, _, _, _, g1, g2, _⟩ := S.own (d := tBk) (x := c.bank) (F := F1) memA
    have := g1.le
    have := g2.le
    unfold cntBk
    omega
  have hS : cntMSt c.st ≤ 104857600 := by
    obtain ⟨_, _, _, _, _, _, _, _, _, _, g1, g2, g3, g4, _⟩ := S.own (d := tSt) (x := c.st) (F := F2) memA
    have := g1.le
    have := g2.le
    have := g3.le
    have := g4.le
    unfold cntMSt
    omega
  clear h1
  go_enter Try.func25, Try.ntmps25
  go_wp2_with (first
    | (go_at_call 73; (with_reducible refine (markBank_c _ c.bank _ F1 _ (S.own memA) (S.ownNd memA) (by omega) (by omega)).mono ?_); rintro e w9 ⟨rfl, h9, c9⟩; replace S := S.putOwn putA h9 c9; clear h9 c9)
    | (go_at_call 44; (with_reducible refine (markState_c _ c.st _ F2 _ (S.own memA) (S.ownNd memA) (by omega) (by omega)).mono ?_); rintro e w9 ⟨rfl, h9, c9⟩; replace S := S.putOwn putA h9 c9; clear h9 c9)
    | (go_at_call 74; (with_reducible refine (markStateS_c _ (.slice A1 c.past.length n1) c.past F3 _ (S.row memA) (S.rowNd memA) (by omega) (by omega) hc).mono ?_); rintro e w9 ⟨rfl, h9, c9⟩; replace S := S.putRow putA h9 c9; clear h9 c9)
    | (go_at_call 75; (with_reducible refine (markIntS_c _ (.slice A2 c.knows.length n2) c.knows F4 _ (S.row memA) (by omega) (by omega)).mono ?_); rintro e w9 ⟨rfl, h9, c9⟩; replace S := S.putRow putA h9 c9; clear h9 c9)
    | ((with_reducible refine gate_box rfl ?_); refine aBx S ?_; clear S; intro g9 w9 z9 S) | ((with_reducible refine gate_load rfl ?_); first | refine aLd S ?_ | refine aPt S ?_ | refine aL1 S ?_))
  have S2 := (Sep.only4 (a1 := aOwn tBk _ _ F1) (a2 := aOwn tSt _ _ F2) (a3 := aRow tSt _ _ _ F3) (a4 := aRow tInt _ _ _ F4) S delA delA delA delA)
  have S' := Sep.shutCh' (b := markBk q c.bank) (s := markSt (q + cntBk c.bank) c.st) (i := c.id) S2 hI
  go_ret
  exact ⟨ret_int (by unfold cntMCh; omega), S'.own List.mem_cons_self, S'.chg⟩
theorem markChain_b (w : World) (c : Ch) (cs : List Value) (F : List Nat) (q : Int) (hc : cntMStS c.past ≤ 1000000000) (h : tCh.own w c cs F ∧ F.Nodup) (hq0 : 0 ≤ q) (hq1 : q ≤ 100000000000) :
    Calls Try.prog 25 #[.agg cs.toArray, .int .i64 q] w (RetMk tCh (q + cntMCh c) (markCh q c) cs F w) := markChain_c w c cs F q h.1 h.2 hq0 hq1 hc
set_option maxHeartbeats 3200000 in
theorem heldChain_c (w : World) (c : Ch) (c1 : List Value) (q : Int) (h1 : tCh.rd w (markCh q c) c1) (hb : SmallCh c) (hq0 : 0 ≤ q) (hq1 : q ≤ 100000000000) :
    Calls Try.prog 26 #[.agg c1.toArray, .int .i64 q] w (Ret (.int .i64 (q + cntMCh c)) w) := by
  replace h1 : tCh.rd w ⟨c.id, markBk q c.bank, markSt (q + cntBk c.bank) c.st, marksS (q + cntBk c.bank + cntMSt c.st) c.past, marksI (q + cntBk c.bank + cntMSt c.st + cntMStS c.past) c.knows.length⟩ c1 := h1
  obtain ⟨b1, b2, s1, s2, s3, s4, v1, v2, rfl, h11, h12, h13, h14, _⟩ := h1
  obtain ⟨hb1, hb2, hb3, hb4, hb5⟩ := hb
  have hB : cntBk c.bank ≤ 4194304 := by unfold cntBk; omega
  have hS : cntMSt c.st ≤ 104857600 := by
    obtain ⟨g1, g2, g3, g4⟩ := hb2
    unfold cntMSt
    omega
  have HB1 := Lib.hid hb1
  have HB2 := Lib.hid hb2
  have HB3 := Lib.hid hb3
  clear hb1 hb2 hb3
  have S := Sep.start w
  go_enter Try.func26, Try.ntmps26
  go_wp2_with (first
    | (go_at_call 76; (with_reducible refine (heldBank_c _ c.bank _ q (tBk.fr S.frame h11) HB1.out (by omega) (by omega)).mono ?_); rintro e w9 ⟨rfl, f9⟩; replace S := S.fr f9; clear f9)
    | (go_at_call 45; (with_reducible refine (heldState_c _ c.st _ (q + (cntBk c.bank : Int)) (tSt.fr S.frame h12) HB2.out (by omega) (by omega)).mono ?_); rintro e w9 ⟨rfl, f9⟩; replace S := S.fr f9; clear f9)
    | (go_at_call 77; (with_reducible refine (heldStateS_c _ _ c.past (q + (cntBk c.bank : Int) + (cntMSt c.st : Int)) (h13.fr S.frame) HB3.out (by omega) (by omega) hb4).mono ?_); rintro e w9 ⟨rfl, f9⟩; replace S := S.fr f9; clear f9)
    | (go_at_call 78; (with_reducible refine (heldIntS_c _ _ c.knows.length (q + (cntBk c.bank : Int) + (cntMSt c.st : Int) + (cntMStS c.past : Int)) (h14.fr S.frame) hb5 (by omega) (by omega)).mono ?_); rintro e w9 ⟨rfl, f9⟩; replace S := S.fr f9; clear f9)
    | ((with_reducible refine gate_box rfl ?_); refine aBx S ?_; clear S; intro g9 w9 z9 S) | ((with_reducible refine gate_load rfl ?_); first | refine aLd S ?_ | refine aPt S ?_ | refine aL1 S ?_))
  go_ret
  exact ⟨ret_int (by unfold cntMCh; omega), S.frame⟩
end Go.Proofs.Ytapdcgjccckjeaa
