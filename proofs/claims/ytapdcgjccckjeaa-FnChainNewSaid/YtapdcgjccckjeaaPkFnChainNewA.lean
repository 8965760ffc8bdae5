/- The texts Base, Sep, Sep2. -/
import Derived.Below
import Derived.Deep.Draws
import Derived.OwnWalk
import Derived.Laws.MakeOwn
import Derived.Laws.OwnMore
import Derived.Deep.OwnRows
import Derived.Tactics
import Derived.WalkKit
import Derived.KernelRfl
import Derived.RowKit3
import Derived.Deep.LoopGhost
import Derived.Deep.QuietTactic
import Derived.BigQuiet
import Derived.WideLaws
import Derived.Deep.DeepCutAuto
import Derived.Deep.CutBlock
import Derived.Deep.RegionHeld3
import Derived.RowKit
import Derived.Lib.Hide
import Derived.OrdersHeld
namespace Go.Proofs.Ytapdcgjccckjeaa
set_option maxRecDepth 100000
set_option linter.unusedVariables false
set_option linter.unusedSimpArgs false
open Go.RowKit

/-! ## Worlds -/
/-- From w to w' no block of w has turned but those of F. -/
structure Chg (F : List Nat) (w w' : World) : Prop where
  os : w'.os = w.os
  tape : w'.tape = w.tape
  output : w'.output = w.output
  size : w.heap.size ≤ w'.heap.size
  block : ∀ k, k < w.heap.size → k ∉ F → w'.heap[k]? = w.heap[k]?
/-- Nothing that was there has turned. -/
def Fr (w w' : World) : Prop := Chg [] w w'

theorem Chg.refl (F : List Nat) (w : World) : Chg F w w := ⟨rfl, rfl, rfl, Nat.le_refl _, fun _ _ _ => rfl⟩
theorem Chg.trans {F G : List Nat} {a b c : World} (h : Chg F a b) (k : Chg G b c) (hG : ∀ g ∈ G, g ∈ F ∨ a.heap.size ≤ g) : Chg F a c :=
  ⟨k.os.trans h.os, k.tape.trans h.tape, k.output.trans h.output, Nat.le_trans h.size k.size, fun i hi hF =>
    (k.block i (Nat.lt_of_lt_of_le hi h.size) (fun hg => by rcases hG i hg with h1 | h1; exact hF h1; omega)).trans (h.block i hi hF)⟩
theorem Fr.refl (w : World) : Fr w w := Chg.refl _ w
theorem Fr.trans {a b c : World} (h : Fr a b) (k : Fr b c) : Fr a c := Chg.trans h k (fun _ h => by cases h)
theorem Chg.fr {F : List Nat} {a b c : World} (h : Chg F a b) (k : Fr b c) : Chg F a c := Chg.trans h k (fun _ h => by cases h)
theorem Fr.chg {F : List Nat} {a b : World} (h : Fr a b) : Chg F a b := ⟨h.os, h.tape, h.output, h.size, fun k hk _ => h.block k hk (by simp)⟩
theorem Chg.mono {F G : List Nat} {a b : World} (h : Chg F a b) (hFG : ∀ x ∈ F, x ∈ G) : Chg G a b := ⟨h.os, h.tape, h.output, h.size, fun k hk hG => h.block k hk (fun hF => hG (hFG k hF))⟩
theorem Fr.below {a b : World} (h : Fr a b) : Below a.heap.size a b := ⟨h.os, h.tape, h.output, h.size, fun k hk => h.block k hk (by simp)⟩
theorem Fr.ofBelow {a b : World} {B : Nat} (h : Below B a b) (hB : a.heap.size ≤ B) : Fr a b := ⟨h.os, h.tape, h.output, h.size, fun k hk _ => h.block k (by omega)⟩
theorem Chg.alloc {F : List Nat} {a b : World} (h : Chg F a b) (o : Obj) : Chg F a (b.alloc o) :=
  ⟨h.os, h.tape, h.output, by have := h.size; simp; omega, fun k hk hF => (Below.heap_alloc _ _ _ (by have := h.size; omega)).trans (h.block k hk hF)⟩
theorem Fr.alloc {a b : World} (h : Fr a b) (o : Obj) : Fr a (b.alloc o) := Chg.alloc h o
theorem Chg.drew {F : List Nat} {a b : World} (h : Chg F a b) : Chg F a b.drew := ⟨h.os, h.tape, h.output, h.size, h.block⟩
theorem Fr.drew {a b : World} (h : Fr a b) : Fr a b.drew := Chg.drew h
theorem Chg.drewN {F : List Nat} {a b : World} (h : Chg F a b) (n : Nat) : Chg F a (b.drewN n) := ⟨h.os, h.tape, h.output, h.size, h.block⟩
theorem Fr.drewN {a b : World} (h : Fr a b) (n : Nat) : Fr a (b.drewN n) := Chg.drewN h n
theorem Chg.set {F : List Nat} {a b : World} (h : Chg F a b) {p : Addr} (hp : p.block ∈ F ∨ a.heap.size ≤ p.block) (u : Value) : Chg F a (b.setCell p u) :=
  ⟨h.os, h.tape, h.output, by have := h.size; simp [World.setCell]; omega, fun k hk hF => (Below.heap_setCell _ _ _ _ (by rintro rfl; rcases hp with hp | hp; exact hF hp; omega)).trans (h.block k hk hF)⟩
theorem Fr.set {a b : World} (h : Fr a b) {p : Addr} (hp : a.heap.size ≤ p.block) (u : Value) : Fr a (b.setCell p u) := Chg.set h (.inr hp) u
theorem Chg.grown {F : List Nat} {a b c : World} {row : Option Nat} (h : Chg F a b) (hg : b.grownBy c row) (hr : ∀ k, row = some k → k ∈ F ∨ a.heap.size ≤ k) : Chg F a c :=
  ⟨hg.os.trans h.os, hg.tape.trans h.tape, hg.output.trans h.output, Nat.le_trans h.size hg.size, fun k hk hF =>
    (hg.block k (by have := h.size; omega) (fun e => by rcases hr k e.symm with h1 | h1; exact hF h1; omega)).trans (h.block k hk hF)⟩
theorem Fr.cell {a b : World} (h : Fr a b) {p : Addr} {v : Value} (hc : a.cell? p = some v) : b.cell? p = some v :=
  (World.cell?_of_block (w := a) (h.block p.block (World.block_lt_of_cell? a p hc) (by simp))).trans hc
theorem Fr.heap {a b : World} (h : Fr a b) {g : Nat} {o : Obj} (hc : a.heap[g]? = some o) : b.heap[g]? = some o :=
  (h.block g (Array.getElem?_eq_some_iff.1 hc).1 (by simp)).trans hc

theorem ret_int {k : IntKind} {a b : Int} (h : a = b) : Ending.returned (.int k a) = .returned (.int k b) := by rw [h]
theorem ret_bool {a b : Bool} (h : a = b) : Ending.returned (.bool a) = .returned (.bool b) := by rw [h]
/-- A call's end: it returns v, and nothing that was there has turned. -/
def Ret (v : Value) (w : World) : Ending → World → Prop := fun e w' => e = .returned v ∧ Fr w w'

theorem quiet_eq {P : Program} {f : FuncId} {args : Array Value} {w : World} {n : Nat} {v : Value}
    (h : Calls P f args (w.drewN n) fun e w' => e = .returned v ∧ w.drewN n = w') : Calls P f args (w.drewN n) fun e w'' => e = .returned v ∧ ∃ m, w'' = w.drewN m :=
  h.mono fun _ _ ⟨he, hm⟩ => ⟨he, n, hm.symm⟩

/-! ## A box: a block of the call's own that holds a struct -/
/-- Block g holds the cells cs. -/
structure Box (w : World) (g : Nat) (t : Nat) (cs : Array Value) : Prop where
  blk : w.heap[g]? = some (.cells cs t (0, 0))
theorem Box.lt {w : World} {g t : Nat} {cs : Array Value} (h : Box w g t cs) : g < w.heap.size := (Array.getElem?_eq_some_iff.1 h.blk).1
theorem Box.cells {w : World} {g t : Nat} {cs : Array Value} (h : Box w g t cs) : ∀ j, w.cell? ⟨g, j, none⟩ = cs[j]? := fun j => by simp [World.cell?, h.blk]
theorem Box.free {w : World} {g t : Nat} {cs : Array Value} (h : Box w g t cs) : ∀ j, w.frozen? ⟨g, j, none⟩ = false := fun j => by simp [World.frozen?, h.blk]
theorem Box.fr {w w' : World} {g t : Nat} {cs : Array Value} (h : Box w g t cs) (f : Fr w w') : Box w' g t cs := ⟨f.heap h.blk⟩
theorem Box.chg {F : List Nat} {w w' : World} {g t : Nat} {cs : Array Value} (h : Box w g t cs) (f : Chg F w w') (hg : g ∉ F) : Box w' g t cs := ⟨(f.block g h.lt hg).trans h.blk⟩

/-- A struct parameter is laid into a box: the world behind it has a name of its own. -/
theorem wpList_box {P : Program} {ops : Array Oper} {rest : List Oper} {o : Oper} {a : Act} {Q : Exit → Act → World → Prop} {W : World} (hg : o.guard = none) (t : TypeId) (x : Operand) (ho : o.op = .box t x) (cs : Array Value) (hx : (a.eval x).cells = cs)
    (h : ∀ g w1, W.heap.size ≤ g → Box w1 g t cs → Fr W w1 → wpList P ops Q rest (a.put o.dst (.pointer (some ⟨g, 0, none⟩))) w1) : wpList P ops Q (o :: rest) a W := by
  refine wpList_plain hg fun K hK => ?_
  have hk := hK _ _ (h W.heap.size (W.alloc (.cells cs t)) (Nat.le_refl _) ⟨heap_alloc_new W _⟩ ((Fr.refl W).alloc _))
  unfold Oper.wp execOp
  rw [ho]
  simp only [Instr.box, newVar, hx]
  go_simp
  exact hk

/-- What is of the call's own may turn. -/
theorem Fr.own {F : List Nat} {a b c : World} (h : Fr a b) (k : Chg F b c) (hF : ∀ g ∈ F, a.heap.size ≤ g) : Fr a c := Chg.trans h k (fun g hg => .inr (hF g hg))
theorem cells_of_one {v : Value} (h : v.oneCell' = true) : v.cells = #[v] := by cases v <;> first | rfl | cases h

section
variable {P : Program} {ops : Array Oper} {rest : List Oper} {o : Oper} {a : Act} {Q : Exit → Act → World → Prop} {W : World} {g t : Nat} {cs : Array Value}
/-- Is it this operation? -/
theorem gate_dst {N : Tmp} (_hN : o.dst = some N) (h : wpList P ops Q (o :: rest) a W) : wpList P ops Q (o :: rest) a W := h
theorem gate_store {t : TypeId} {p : Tmp} {v : Operand} (_ho : o.op = .store t (.tmp p) v) (h : wpList P ops Q (o :: rest) a W) : wpList P ops Q (o :: rest) a W := h
/-- A new variable, at its zero value. -/
theorem wpList_alloc (hg : o.guard = none) (t : TypeId) (ho : o.op = .alloc t) (z : Value) (hz : (zeroValue t).run P W = .ok z W) (cs : Array Value) (hc : z.cells = cs)
    (h : ∀ g w1, W.heap.size ≤ g → Box w1 g t cs → Fr W w1 → wpList P ops Q rest (a.put o.dst (.pointer (some ⟨g, 0, none⟩))) w1) : wpList P ops Q (o :: rest) a W := by
  refine wpList_plain hg fun K hK => ?_
  have hk := hK _ _ (h W.heap.size (W.alloc (.cells cs t)) (Nat.le_refl _) ⟨heap_alloc_new W _⟩ ((Fr.refl W).alloc _))
  unfold Oper.wp execOp
  rw [ho]
  simp only [Instr.alloc, Sem.run_bind, hz, Result.andThen_ok, newVar, hc]
  go_simp
  exact hk
theorem run_loadVar_part (w : World) (g j n t : Nat) (ty : TypeId) (cs : Array Value) (d : TypeDesc) (hg : w.heap[g]? = some (.cells cs t (0, 0)))
    (hu : P.underlying ty = some d) (hd : (match d with | .struct _ | .array _ _ => true | _ => false) = true) (hi : (P.info? ty).map (·.size) = some n) (hn : j + n ≤ cs.size) :
    (loadVar ty ⟨g, j, none⟩).run P w = .ok (.agg (cs.extract j (j + n))) w := by
  have hlen : (cs.extract j (j + n)).toList.length = n := by simp; omega
  have hl : (loadCells ⟨g, j, none⟩ (cs.extract j (j + n)).toList.length).run P w = .ok (cs.extract j (j + n)).toList.toArray w :=
    run_loadCells_list (P := P) w ⟨g, j, none⟩ _ (fun i v hv => by
      have hadd : (⟨g, j, none⟩ : Addr).add i = ⟨g, j + i, none⟩ := by unfold Addr.add; split <;> simp_all
      rw [hadd, cell_of_row w g (j + i) cs t (0, 0) hg]
      have hi' : i < n := by have := (List.getElem?_eq_some_iff.1 hv).1; omega
      rw [Array.getElem?_toList] at hv
      rw [← hv, Array.getElem?_extract]
      simp [hi']
      omega)
  rw [hlen] at hl
  cases hq : P.info? ty with
  | none => simp [hq] at hi
  | some i =>
    have hs : i.size = n := by simpa [hq] using hi
    have hagg : (isAgg ty).run P w = .ok true w := by
      unfold isAgg
      rw [Sem.run_bind, run_underlying hu w]
      cases d <;> simp_all
    simp only [Array.toArray_toList] at hl
    simp [loadVar, Sem.run_bind, hagg, sizeOf, typeInfo, hq, hs, hl]
/-- A struct, or a struct's part, loaded out of a box. -/
theorem wpList_bload (k : Box W g t cs) (hgd : o.guard = none) (ty : TypeId) (x : Operand) (ho : o.op = .load ty x) (j n : Nat) (hx : a.eval x = .pointer (some ⟨g, j, none⟩)) (d : TypeDesc)
    (hu : P.underlying ty = some d) (hd : (match d with | .struct _ | .array _ _ => true | _ => false) = true) (hi : (P.info? ty).map (·.size) = some n) (hn : j + n ≤ cs.size) (vs : Array Value) (hv : cs.extract j (j + n) = vs)
    (h : wpList P ops Q rest (a.put o.dst (.agg vs)) W) : wpList P ops Q (o :: rest) a W :=
  wpList_plain hgd fun K hK => by
    unfold Oper.wp execOp
    subst hv
    simp only [ho, hx, Instr.loadAt, Instr.sureAddr, Sem.run_bind, Sem.run_pure, Result.andThen_ok, run_loadVar_part W g j n t ty cs d k.blk hu hd hi hn]
    exact hK _ _ h
theorem setRow_box {w : World} (k : Box w g t cs) (cs' : Array Value) : Box (w.setRow g cs') g t cs' ∧ Chg [g] w (w.setRow g cs') := by
  have hlt := k.lt
  refine ⟨⟨setRow_heap w g cs cs' t _ k.blk⟩, ⟨rfl, rfl, rfl, by simp [World.setRow], fun i hi hg => ?_⟩⟩
  simp only [World.setRow, Array.getElem?_modify]
  rw [if_neg (by simp at hg; omega)]
/-- A store into a box. -/
theorem wpList_bstore (k : Box W g t cs) (hgd : o.guard = none) (ty : TypeId) (x y : Operand) (ho : o.op = .store ty x y) (j n : Nat) (hx : a.eval x = .pointer (some ⟨g, j, none⟩)) (v : Value) (hy : a.eval y = v) (vs : Array Value) (hvs : v.cells = vs) (hvn : vs.size = n)
    (hi : (P.info? ty).map (·.size) = some n) (hn : j + n ≤ cs.size) (h1 : ∀ u ∈ vs.toList, u.oneCell' = true) (cs' : Array Value) (hv : (cs.toList.take j ++ vs.toList ++ cs.toList.drop (j + n)).toArray = cs')
    (h : ∀ w1, Box w1 g t cs' → Chg [g] W w1 → wpList P ops Q rest (a.put o.dst undef) w1) : wpList P ops Q (o :: rest) a W :=
  wpList_plain hgd fun K hK => by
    have hr := run_storeCells_at P g j t vs.toList 0 cs W k.blk (by rw [Array.length_toList]; omega) h1
    have hnl : vs.toList.length = n := by simp [hvn]
    rw [Nat.add_zero, hnl, hv] at hr
    obtain ⟨b1, b2⟩ := setRow_box k cs'
    cases hq : P.info? ty with
    | none => simp [hq] at hi
    | some i =>
      have hs : i.size = n := by simpa [hq] using hi
      unfold Oper.wp execOp
      simp [ho, hx, hy, Instr.storeAt, Instr.sureAddr, storeVar, sizeOf, typeInfo, hq, hvs, hvn, hs, hr]
      exact hK _ _ (h _ b1 b2)
/-- A whole box, read and written. -/
theorem wpList_bget (k : Box W g t cs) (hgd : o.guard = none) (ty : TypeId) (x : Operand) (ho : o.op = .load ty x) (hx : a.eval x = .pointer (some ⟨g, 0, none⟩)) (d : TypeDesc)
    (hu : P.underlying ty = some d) (hd : (match d with | .struct _ | .array _ _ => true | _ => false) = true) {n : Nat} (hi : (P.info? ty).map (·.size) = some n) (hn : cs.size = n)
    (h : wpList P ops Q rest (a.put o.dst (.agg cs)) W) : wpList P ops Q (o :: rest) a W :=
  wpList_load_row hgd ty x ho g hx t cs (0, 0) d k.blk hu hd (by rw [hi, hn]) h
theorem wpList_bput (k : Box W g t cs) (hgd : o.guard = none) (ty : TypeId) (x y : Operand) (ho : o.op = .store ty x y) (hx : a.eval x = .pointer (some ⟨g, 0, none⟩)) (ls : List Value) (hy : a.eval y = .agg ls.toArray)
    {n : Nat} (hi : (P.info? ty).map (·.size) = some n) (hn : cs.size = n) (hl : ls.length = n) (h1 : ∀ u ∈ ls, u.oneCell' = true)
    (h : ∀ w1, Box w1 g t ls.toArray → Chg [g] W w1 → wpList P ops Q rest (a.put o.dst undef) w1) : wpList P ops Q (o :: rest) a W :=
  wpList_bstore k hgd ty x y ho 0 n hx (.agg ls.toArray) hy ls.toArray rfl (by simpa using hl) hi (by omega) (by simpa using h1) ls.toArray (by simp; omega) h
theorem size_toArray {ls : List Value} {n : Nat} (h : ls.length = n) : ls.toArray.size = n := by simpa using h
/-- A value of one cell, stored into a box. -/
theorem wpList_bstore1 (k : Box W g t cs) (hgd : o.guard = none) (ty : TypeId) (x y : Operand) (ho : o.op = .store ty x y) (j : Nat) (hx : a.eval x = .pointer (some ⟨g, j, none⟩)) (v : Value) (hy : a.eval y = v) (h1 : v.oneCell' = true)
    (hi : (P.info? ty).map (·.size) = some 1) (hn : j < cs.size) (cs' : Array Value) (hv : (cs.toList.take j ++ v :: cs.toList.drop (j + 1)).toArray = cs')
    (h : ∀ w1, Box w1 g t cs' → Chg [g] W w1 → wpList P ops Q rest (a.put o.dst undef) w1) : wpList P ops Q (o :: rest) a W :=
  wpList_bstore k hgd ty x y ho j 1 hx v hy #[v] (cells_of_one h1) rfl hi (by omega) (fun u hu => by simp at hu; rw [hu]; exact h1) cs' (by rw [← hv]; simp) h
end

/-! ## What a value reads as, and what a call owns -/
/-- A kind of data: how many cells; what they read as; what they read as where all that they lead to is a call's own: the blocks F. -/
structure Ty (α : Type) where
  sz : Nat
  rd : World → α → List Value → Prop
  own : World → α → List Value → List Nat → Prop
  len : ∀ {w x cs}, rd w x cs → cs.length = sz
  fr : ∀ {w w' : World} {x cs}, Fr w w' → rd w x cs → rd w' x cs
  own_rd : ∀ {w x cs F}, own w x cs F → rd w x cs
  own_lt : ∀ {w : World} {x cs F}, own w x cs F → ∀ g ∈ F, g < w.heap.size
  keep : ∀ {w w' : World} {x cs F}, own w x cs F → (∀ g ∈ F, w'.heap[g]? = w.heap[g]?) → own w' x cs F
  one : ∀ {w x cs F}, own w x cs F → ∀ u ∈ cs, u.oneCell' = true

/-- A slice that reads as a list. -/
def Ty.row {α : Type} (d : Ty α) (w : World) (v : Value) (xs : List α) : Prop :=
  ∃ A c, v = .slice A xs.length c ∧ (xs.length ≤ c ∧ (A = none → c = 0)) ∧ xs.length ≤ 9223372036854775807 ∧
    ∀ k (h : k < xs.length), ∃ ad cs, A = some ad ∧ d.rd w xs[k] cs ∧ ∀ j (hj : j < cs.length), w.cell? (ad.add (k * d.sz + j)) = some cs[j]
/-- Elements one behind the other, and the blocks that they lead to. -/
def Ty.elems {α : Type} (d : Ty α) (w : World) : List α → List Value → List Nat → Prop
  | [], cs, F => cs = [] ∧ F = []
  | x :: xs, cs, F => ∃ c1 c2 F1 F2, cs = c1 ++ c2 ∧ F = F1 ++ F2 ∧ d.own w x c1 F1 ∧ d.elems w xs c2 F2
/-- A slice of the call's own (elements of type e). -/
def Ty.orow {α : Type} (d : Ty α) (e : Nat) (w : World) (v : Value) (xs : List α) (F : List Nat) : Prop :=
  xs.length ≤ 2097152 ∧ ∃ inner F2, w.ownsRow 0 e d.sz v xs.length inner ∧ d.elems w xs inner F2 ∧ F = v.ownBlock.toList ++ F2

section
variable {α : Type} {d : Ty α} {w w' : World} {v : Value} {xs ys : List α} {x : α} {cs : List Value} {F G : List Nat} {e : Nat}
theorem Ty.row.fr (h : d.row w v xs) (f : Fr w w') : d.row w' v xs := by
  obtain ⟨A, c, e, h1, h2, h3⟩ := h
  refine ⟨A, c, e, h1, h2, fun k hk => ?_⟩
  obtain ⟨ad, cs, e1, hr, hc⟩ := h3 k hk
  exact ⟨ad, cs, e1, d.fr f hr, fun j hj => f.cell (hc j hj)⟩
theorem Ty.row.val (h : d.row w v xs) : ∃ A c, v = .slice A xs.length c := by
  obtain ⟨A, c, e, _⟩ := h
  exact ⟨A, c, e⟩
theorem Ty.row.nilc {A : Option Addr} {n c : Nat} (h : d.row w (.slice A n c) xs) (hA : A = none) : c = 0 := by
  obtain ⟨A', c', e, h1, _⟩ := h
  cases e
  exact h1.2 hA
theorem Ty.row.le (h : d.row w v xs) : xs.length ≤ 9223372036854775807 := by
  obtain ⟨_, _, _, _, h, _⟩ := h
  exact h
theorem Ty.row.nil (d : Ty α) (w : World) : d.row w (.slice none 0 0) [] := ⟨none, 0, rfl, ⟨Nat.le_refl _, fun _ => rfl⟩, by simp, fun k hk => by simp at hk⟩
theorem Ty.rd.fr (h : d.rd w x cs) (f : Fr w w') : d.rd w' x cs := d.fr f h
theorem Ty.own.rd (h : d.own w x cs F) : d.rd w x cs := d.own_rd h
theorem Ty.own.lt (h : d.own w x cs F) : ∀ g ∈ F, g < w.heap.size := d.own_lt h
theorem Ty.own.fr (h : d.own w x cs F) (f : Fr w w') : d.own w' x cs F := d.keep h (fun g hg => f.block g (d.own_lt h g hg) (by simp))
theorem Ty.own.chg (h : d.own w x cs F) (f : Chg G w w') (hd : ∀ g ∈ F, g ∉ G) : d.own w' x cs F := d.keep h (fun g hg => f.block g (d.own_lt h g hg) (hd g hg))
theorem Ty.own_fr (h : d.own w x cs F) (f : Fr w w') : d.own w' x cs F := d.keep h (fun g hg => f.block g (d.own_lt h g hg) (by simp))
theorem Ty.own_chg (h : d.own w x cs F) (f : Chg G w w') (hd : ∀ g ∈ F, g ∉ G) : d.own w' x cs F := d.keep h (fun g hg => f.block g (d.own_lt h g hg) (hd g hg))

theorem Ty.elems.len : ∀ {xs : List α} {cs : List Value} {F : List Nat}, d.elems w xs cs F → cs.length = xs.length * d.sz
  | [], _, _, h => by rw [h.1]; simp
  | x :: xs, _, _, h => by
    obtain ⟨c1, c2, F1, F2, rfl, rfl, h1, h2⟩ := h
    rw [List.length_append, d.len (d.own_rd h1), h2.len, List.length_cons, Nat.add_mul, Nat.one_mul, Nat.add_comm]
theorem Ty.elems.lt : ∀ {xs : List α} {cs : List Value} {F : List Nat}, d.elems w xs cs F → ∀ g ∈ F, g < w.heap.size
  | [], _, _, h, g, hg => by rw [h.2] at hg; cases hg
  | x :: xs, _, _, h, g, hg => by
    obtain ⟨c1, c2, F1, F2, rfl, rfl, h1, h2⟩ := h
    rcases List.mem_append.1 hg with hg | hg
    · exact d.own_lt h1 g hg
    · exact h2.lt g hg
theorem Ty.elems.keep : ∀ {xs : List α} {cs : List Value} {F : List Nat}, d.elems w xs cs F → (∀ g ∈ F, w'.heap[g]? = w.heap[g]?) → d.elems w' xs cs F
  | [], _, _, h, _ => h
  | x :: xs, _, _, h, hk => by
    obtain ⟨c1, c2, F1, F2, rfl, rfl, h1, h2⟩ := h
    exact ⟨c1, c2, F1, F2, rfl, rfl, d.keep h1 (fun g hg => hk g (List.mem_append_left _ hg)), h2.keep (fun g hg => hk g (List.mem_append_right _ hg))⟩
theorem Ty.elems.one : ∀ {xs : List α} {cs : List Value} {F : List Nat}, d.elems w xs cs F → ∀ u ∈ cs, u.oneCell' = true
  | [], _, _, h, u, hu => by rw [h.1] at hu; cases hu
  | x :: xs, _, _, h, u, hu => by
    obtain ⟨c1, c2, F1, F2, rfl, rfl, h1, h2⟩ := h
    rcases List.mem_append.1 hu with hu | hu
    · exact d.one h1 u hu
    · exact h2.one u hu
theorem Ty.elems.append : ∀ {xs ys : List α} {c1 c2 : List Value} {F1 F2 : List Nat}, d.elems w xs c1 F1 → d.elems w ys c2 F2 → d.elems w (xs ++ ys) (c1 ++ c2) (F1 ++ F2)
  | [], _, _, _, _, _, h, k => by rw [h.1, h.2]; simpa using k
  | x :: xs, _, _, _, _, _, h, k => by
    obtain ⟨c1, c2, F1, F2, rfl, rfl, h1, h2⟩ := h
    exact ⟨c1, c2 ++ _, F1, F2 ++ _, by simp, by simp, h1, h2.append k⟩
theorem Ty.elems.single (h : d.own w x cs F) : d.elems w [x] cs F := ⟨cs, [], F, [], by simp, by simp, h, rfl, rfl⟩
theorem Ty.elems.split : ∀ {xs ys : List α} {cs : List Value} {F : List Nat}, d.elems w (xs ++ ys) cs F → ∃ c1 c2 F1 F2, cs = c1 ++ c2 ∧ F = F1 ++ F2 ∧ d.elems w xs c1 F1 ∧ d.elems w ys c2 F2
  | [], _, cs, F, h => ⟨[], cs, [], F, rfl, rfl, ⟨rfl, rfl⟩, h⟩
  | x :: xs, ys, _, _, h => by
    obtain ⟨c1, c2, F1, F2, rfl, rfl, h1, h2⟩ := h
    obtain ⟨d1, d2, G1, G2, rfl, rfl, h3, h4⟩ := h2.split
    exact ⟨c1 ++ d1, d2, F1 ++ G1, G2, by simp, by simp, ⟨c1, d1, F1, G1, rfl, rfl, h1, h3⟩, h4⟩
/-- Element k: its cells, its blocks; and what stands on both sides. -/
theorem Ty.elems.at_ {k : Nat} (h : d.elems w xs cs F) (hk : k < xs.length) : ∃ c1 ck c2 F1 Fk F2, cs = c1 ++ (ck ++ c2) ∧ F = F1 ++ (Fk ++ F2) ∧ c1.length = k * d.sz ∧ ck.length = d.sz ∧ d.own w xs[k] ck Fk ∧
    d.elems w (xs.take k) c1 F1 ∧ d.elems w (xs.drop (k + 1)) c2 F2 := by
  have e1 : xs = xs.take k ++ (xs[k] :: xs.drop (k + 1)) := by rw [List.getElem_cons_drop, List.take_append_drop]
  rw [e1] at h
  obtain ⟨c1, c2, F1, F2, rfl, rfl, h1, d1, d2, G1, G2, rfl, rfl, h2, h3⟩ := h.split
  refine ⟨c1, d1, d2, F1, G1, G2, rfl, rfl, ?_, d.len (d.own_rd h2), h2, h1, h3⟩
  rw [h1.len, List.length_take, Nat.min_eq_left (Nat.le_of_lt hk)]
theorem Ty.elems.put {k : Nat} {c1 ck c2 : List Value} {F1 Fk F2 : List Nat} {y : α} (hk : k < xs.length) (h1 : d.elems w (xs.take k) c1 F1) (h2 : d.own w y ck Fk) (h3 : d.elems w (xs.drop (k + 1)) c2 F2) :
    d.elems w (xs.set k y) (c1 ++ (ck ++ c2)) (F1 ++ (Fk ++ F2)) := by
  have e1 : xs.set k y = xs.take k ++ (y :: xs.drop (k + 1)) := by rw [List.set_eq_take_append_cons_drop, if_pos hk]
  rw [e1]
  exact h1.append ⟨ck, c2, Fk, F2, rfl, rfl, h2, h3⟩

theorem own_keep' {e size n : Nat} {ys : List Value} (h : w.ownsRow 0 e size v n ys) (hm : ∀ k, v.ownBlock = some k → w'.heap[k]? = w.heap[k]?) : w'.ownsRow 0 e size v n ys := by
  obtain ⟨h1, h2⟩ := h
  refine ⟨h1, ?_⟩
  rcases h2 with h2 | ⟨g, cap, cur, rfl, hg, hh, r⟩
  · exact .inl h2
  · exact .inr ⟨g, cap, cur, rfl, hg, (hm g (by simp [Value.ownBlock])).trans hh, r⟩
theorem Ty.orow.le (h : d.orow e w v xs F) : xs.length ≤ 2097152 := h.1
theorem Ty.orow.lt (h : d.orow e w v xs F) : ∀ g ∈ F, g < w.heap.size := by
  obtain ⟨_, inner, F2, ho, he, rfl⟩ := h
  intro g hg
  rcases List.mem_append.1 hg with hg | hg
  · exact (ho.lt g (by simpa using hg)).2
  · exact he.lt g hg
theorem Ty.orow.keep (h : d.orow e w v xs F) (hk : ∀ g ∈ F, w'.heap[g]? = w.heap[g]?) : d.orow e w' v xs F := by
  obtain ⟨hl, inner, F2, ho, he, rfl⟩ := h
  exact ⟨hl, inner, F2, own_keep' ho (fun k hk' => hk k (by simp [hk'])), he.keep (fun g hg => hk g (List.mem_append_right _ hg)), rfl⟩
theorem Ty.orow.fr (h : d.orow e w v xs F) (f : Fr w w') : d.orow e w' v xs F := h.keep (fun g hg => f.block g (h.lt g hg) (by simp))
theorem Ty.orow.chg (h : d.orow e w v xs F) (f : Chg G w w') (hd : ∀ g ∈ F, g ∉ G) : d.orow e w' v xs F := h.keep (fun g hg => f.block g (h.lt g hg) (hd g hg))
theorem Ty.orow.nil (d : Ty α) (e : Nat) (w : World) : d.orow e w (.slice none 0 0) [] [] := ⟨by simp, [], [], World.ownsRow_nil w 0 e d.sz, ⟨rfl, rfl⟩, rfl⟩
theorem Ty.orow.one (h : d.orow e w v xs F) : v.oneCell' = true := by
  obtain ⟨_, inner, F2, ho, _⟩ := h
  rcases ho.2 with ⟨rfl, _⟩ | ⟨g, cap, cur, rfl, _⟩ <;> rfl
theorem addr_add (g j : Nat) : (⟨g, 0, none⟩ : Addr).add j = ⟨g, j, none⟩ := by unfold Addr.add; split <;> simp_all
/-- The shape of an owned slice that isn't empty. -/
theorem Ty.orow.shape (h : d.orow e w v xs F) (hn : 0 < xs.length) : ∃ g cap, v = .slice (some ⟨g, 0, none⟩) xs.length cap := by
  obtain ⟨_, inner, F2, ho, _⟩ := h
  rcases ho.2 with ⟨_, h0⟩ | ⟨g, cap, cur, rfl, _⟩
  · omega
  · exact ⟨g, cap, rfl⟩
/-- Element k of an owned slice. -/
theorem Ty.orow.at_ {g n cap k : Nat} (h : d.orow e w (.slice (some ⟨g, 0, none⟩) n cap) xs F) (hn : F.Nodup) (hk : k < xs.length) :
    ∃ ck Fk, ck.length = d.sz ∧ d.own w xs[k] ck Fk ∧ g ∈ F ∧ (∀ q ∈ Fk, q ∈ F ∧ q ≠ g) ∧ Fk.Nodup ∧ (∀ j (hj : j < ck.length), w.cell? ⟨g, k * d.sz + j, none⟩ = some ck[j]) ∧ (∀ j, w.frozen? ⟨g, j, none⟩ = false) ∧
      (∀ (w' : World) (y : α), Chg Fk w w' → d.own w' y ck Fk → d.orow e w' (.slice (some ⟨g, 0, none⟩) n cap) (xs.set k y) F) ∧
      (∀ (j : Nat) (u : Value) (y : α), (∀ W : World, d.own W xs[k] ck Fk → d.own W y (ck.set j u) Fk) → j < d.sz → d.orow e (w.setCell ⟨g, k * d.sz + j, none⟩ u) (.slice (some ⟨g, 0, none⟩) n cap) (xs.set k y) F) := by
  obtain ⟨hl, inner, F2, ho, he, rfl⟩ := h
  have hob : (Value.slice (some ⟨g, 0, none⟩) n cap).ownBlock = some g := rfl
  rw [hob] at hn ⊢
  simp only [Option.toList_some, List.singleton_append, List.nodup_cons] at hn
  obtain ⟨c1, ck, c2, F1, Fk, F3, rfl, rfl, h1, h2, h3, h4, h5⟩ := he.at_ hk
  have hck : ∀ j (hj : j < ck.length), (c1 ++ (ck ++ c2))[k * d.sz + j]? = some ck[j] := by
    intro j hj
    rw [List.getElem?_append_right (by omega), h1, Nat.add_sub_cancel_left, List.getElem?_append_left hj, List.getElem?_eq_getElem hj]
  have hFk : ∀ q ∈ Fk, q ∈ F1 ++ (Fk ++ F3) := fun q hq => List.mem_append_right _ (List.mem_append_left _ hq)
  have hnd := List.nodup_append.1 hn.2
  have hnd2 := List.nodup_append.1 hnd.2.1
  have hnl : n = xs.length := by
    rcases ho.2 with ⟨h', _⟩ | ⟨g', cap', cur, h', _⟩
    · cases h'
    · simp only [Value.slice.injEq] at h'; exact h'.2.1
  refine ⟨ck, Fk, h2, h3, by simp, fun q hq => ⟨by simp [hFk q hq], fun e => hn.1 (e ▸ hFk q hq)⟩, hnd2.1, fun j hj => ?_, fun j => ?_, fun W y f hy => ?_, fun j u y hy hj => ?_⟩
  · have := ho.cells (g := g) rfl (k * d.sz + j) _ (hck j hj)
    rwa [addr_add] at this
  · rcases ho.2 with ⟨h', _⟩ | ⟨g', cap', cur, h', _, hh, _⟩
    · cases h'
    · simp only [Value.slice.injEq, Option.some.injEq, Addr.mk.injEq] at h'
      obtain ⟨⟨rfl, _⟩, _⟩ := h'
      simp [World.frozen?, hh]
  · have hg : g ∉ Fk := fun hg => hn.1 (hFk g hg)
    refine ⟨by simpa using hl, c1 ++ (ck ++ c2), F1 ++ (Fk ++ F3), ?_, ?_, rfl⟩
    · rw [List.length_set]
      exact own_keep' ho (fun q hq => f.block q (ho.lt q hq).2 (by rw [hob] at hq; cases hq; exact hg))
    · refine Ty.elems.put hk (h4.keep fun q hq => f.block q (h4.lt q hq) (fun hq2 => hnd.2.2 q hq q (List.mem_append_left _ hq2) rfl)) hy (h5.keep fun q hq => f.block q (h5.lt q hq) (fun hq2 => hnd2.2.2 q hq2 q hq rfl))
  · have hs := ho
    subst hnl
    obtain ⟨hs1, _⟩ := World.ownsRow.stored hs (k * d.sz + j) u
    have hset : (c1 ++ (ck ++ c2)).set (k * d.sz + j) u = c1 ++ (ck.set j u ++ c2) := by
      rw [List.set_append_right _ _ (by omega), h1, Nat.add_sub_cancel_left, List.set_append_left _ _ (by omega)]
    rw [hset] at hs1
    have hb : ∀ q, q ≠ g → (w.setCell ⟨g, k * d.sz + j, none⟩ u).heap[q]? = w.heap[q]? := fun q hq => Below.heap_setCell _ _ _ _ hq
    have hq : ∀ q ∈ F1 ++ (Fk ++ F3), (w.setCell ⟨g, k * d.sz + j, none⟩ u).heap[q]? = w.heap[q]? := fun q hq => hb q (fun e => hn.1 (e ▸ hq))
    refine ⟨by simpa using hl, _, F1 ++ (Fk ++ F3), by rw [List.length_set]; exact hs1, ?_, rfl⟩
    exact Ty.elems.put hk (h4.keep fun q hq' => hq q (List.mem_append_left _ hq')) (hy _ (d.keep h3 fun q hq' => hq q (hFk q hq'))) (h5.keep fun q hq' => hq q (List.mem_append_right _ (List.mem_append_right _ hq')))
/-- What is owned reads. -/
theorem Ty.orow.row (h : d.orow e w v xs F) : d.row w v xs := by
  obtain ⟨hl, inner, F2, ho, he, rfl⟩ := h
  have hl2 : xs.length ≤ 9223372036854775807 := by omega
  rcases ho.2 with ⟨rfl, h0⟩ | ⟨g, cap, cur, rfl, _, hh, hc, _, hsz, htk⟩
  · obtain rfl : xs = [] := List.eq_nil_of_length_eq_zero h0
    exact Ty.row.nil d w
  · refine ⟨some ⟨g, 0, none⟩, cap, rfl, ⟨hc, fun h => by cases h⟩, hl2, fun k hk => ?_⟩
    obtain ⟨c1, ck, c2, F1, Fk, F3, rfl, rfl, h1, h2, h3, h4, h5⟩ := he.at_ hk
    refine ⟨_, ck, rfl, d.own_rd h3, fun j hj => ?_⟩
    refine ho.cells (g := g) rfl (k * d.sz + j) _ ?_
    rw [List.getElem?_append_right (by omega), h1, Nat.add_sub_cancel_left, List.getElem?_append_left hj, List.getElem?_eq_getElem hj]
/-- Appended to: what the library's law leaves. -/
theorem Ty.orow.mk {inner : List Value} {F2 : List Nat} (hl : xs.length ≤ 2097152) (ho : w.ownsRow 0 e d.sz v xs.length inner) (he : d.elems w xs inner F2) : d.orow e w v xs (v.ownBlock.toList ++ F2) := ⟨hl, inner, F2, ho, he, rfl⟩
end

/-! ## Numbers and bools -/
def tInt : Ty Int where
  sz := 1
  rd := fun _ x cs => cs = [.int .i64 x]
  own := fun _ x cs F => cs = [.int .i64 x] ∧ F = []
  len := fun h => by rw [h]; rfl
  fr := fun _ h => h
  own_rd := fun h => h.1
  own_lt := fun h g hg => by rw [h.2] at hg; cases hg
  keep := fun h _ => h
  one := fun h u hu => by rw [h.1] at hu; rw [List.mem_singleton.1 hu]; rfl
def tBool : Ty Bool where
  sz := 1
  rd := fun _ x cs => cs = [.bool x]
  own := fun _ x cs F => cs = [.bool x] ∧ F = []
  len := fun h => by rw [h]; rfl
  fr := fun _ h => h
  own_rd := fun h => h.1
  own_lt := fun h g hg => by rw [h.2] at hg; cases hg
  keep := fun h _ => h
  one := fun h u hu => by rw [h.1] at hu; rw [List.mem_singleton.1 hu]; rfl
theorem row_int_at {w : World} {A : Option Addr} {n c : Nat} {xs : List Int} (h : tInt.row w (.slice A n c) xs) (k : Nat) (hk : k < xs.length) : ∃ ad, A = some ad ∧ w.cell? (ad.add k) = some (.int .i64 xs[k]) := by
  obtain ⟨A', c', e, h1, h2, h3⟩ := h
  obtain ⟨ad, cs, e1, hr, hc⟩ := h3 k hk
  cases e
  subst e1
  have h5 : cs = [.int .i64 xs[k]] := hr
  subst h5
  refine ⟨ad, rfl, ?_⟩
  simpa [tInt] using hc 0 Nat.zero_lt_one
theorem row_bool_at {w : World} {A : Option Addr} {n c : Nat} {xs : List Bool} (h : tBool.row w (.slice A n c) xs) (k : Nat) (hk : k < xs.length) : ∃ ad, A = some ad ∧ w.cell? (ad.add k) = some (.bool xs[k]) := by
  obtain ⟨A', c', e, h1, h2, h3⟩ := h
  obtain ⟨ad, cs, e1, hr, hc⟩ := h3 k hk
  cases e
  subst e1
  have h5 : cs = [.bool xs[k]] := hr
  subst h5
  refine ⟨ad, rfl, ?_⟩
  simpa [tBool] using hc 0 Nat.zero_lt_one
/-- Kinds whose values lead nowhere. -/
def Ty.flat {α : Type} (d : Ty α) : Prop := ∀ {w : World} {x cs F}, d.own w x cs F → F = []
theorem tInt_flat : tInt.flat := fun h => h.2
theorem tBool_flat : tBool.flat := fun h => h.2
theorem Ty.elems.nil {α : Type} {d : Ty α} (hf : d.flat) {w : World} : ∀ {xs : List α} {cs : List Value} {F : List Nat}, d.elems w xs cs F → F = []
  | [], _, _, h => h.2
  | x :: xs, _, _, h => by
    obtain ⟨c1, c2, F1, F2, _, rfl, h1, h2⟩ := h
    rw [hf h1, h2.nil hf]; rfl
theorem Ty.orow.nodup {α : Type} {d : Ty α} (hf : d.flat) {w : World} {v : Value} {xs : List α} {F : List Nat} {e : Nat} (h : d.orow e w v xs F) : F.Nodup := by
  obtain ⟨_, inner, F2, _, he, rfl⟩ := h
  rw [he.nil hf]
  cases v.ownBlock <;> simp
/-- An int of an owned slice: its cell; a store into it. -/
theorem orow_int_at {w : World} {A : Option Addr} {n cap e k : Nat} {xs : List Int} {F : List Nat} (h : tInt.orow e w (.slice A n cap) xs F) (hk : k < xs.length) :
    ∃ g y, A = some ⟨g, 0, none⟩ ∧ g ∈ F ∧ w.cell? ⟨g, k, none⟩ = some (.int .i64 y) ∧ w.frozen? ⟨g, k, none⟩ = false ∧
      ∀ x, tInt.orow e (w.setCell ⟨g, k, none⟩ (.int .i64 x)) (.slice A n cap) (xs.set k x) F := by
  obtain ⟨g, cap', e'⟩ := h.shape (by omega)
  simp only [Value.slice.injEq] at e'
  obtain ⟨rfl, rfl, rfl⟩ := e'
  obtain ⟨ck, Fk, h2, h3, h4, _, _, h5, h6, _, h7⟩ := h.at_ (h.nodup tInt_flat) hk
  obtain ⟨rfl, rfl⟩ := h3
  refine ⟨g, xs[k], rfl, h4, ?_, h6 k, fun x => ?_⟩
  · simpa [tInt] using h5 0 Nat.zero_lt_one
  · have := h7 0 (.int .i64 x) x (fun W hW => by obtain ⟨_, _⟩ := hW; exact ⟨rfl, rfl⟩) Nat.zero_lt_one
    simpa [tInt] using this
theorem orow_bool_at {w : World} {A : Option Addr} {n cap e k : Nat} {xs : List Bool} {F : List Nat} (h : tBool.orow e w (.slice A n cap) xs F) (hk : k < xs.length) :
    ∃ g y, A = some ⟨g, 0, none⟩ ∧ g ∈ F ∧ w.cell? ⟨g, k, none⟩ = some (.bool y) ∧ w.frozen? ⟨g, k, none⟩ = false ∧
      ∀ x, tBool.orow e (w.setCell ⟨g, k, none⟩ (.bool x)) (.slice A n cap) (xs.set k x) F := by
  obtain ⟨g, cap', e'⟩ := h.shape (by omega)
  simp only [Value.slice.injEq] at e'
  obtain ⟨rfl, rfl, rfl⟩ := e'
  obtain ⟨ck, Fk, h2, h3, h4, _, _, h5, h6, _, h7⟩ := h.at_ (h.nodup tBool_flat) hk
  obtain ⟨rfl, rfl⟩ := h3
  refine ⟨g, xs[k], rfl, h4, ?_, h6 k, fun x => ?_⟩
  · simpa [tBool] using h5 0 Nat.zero_lt_one
  · have := h7 0 (.bool x) x (fun W hW => by obtain ⟨_, _⟩ := hW; exact ⟨rfl, rfl⟩) Nat.zero_lt_one
    simpa [tBool] using this

/-- Equal elements, each leading nowhere. -/
theorem Ty.elems.rep {α : Type} {d : Ty α} {w : World} {z : α} {cz : List Value} (h : d.own w z cz []) : ∀ n, d.elems w (List.replicate n z) (List.replicate n cz).flatten []
  | 0 => ⟨rfl, rfl⟩
  | n + 1 => by
    rw [List.replicate_succ, List.replicate_succ]
    exact ⟨cz, _, [], [], rfl, rfl, h, Ty.elems.rep h n⟩
/-- What 'make' of n elements lays. -/
theorem madeCells_eq (cz : List Value) (n : Nat) : (madeCells cz.toArray (n * cz.length)).toList = (List.replicate n cz).flatten := by
  rcases Nat.eq_zero_or_pos cz.length with h0 | h0
  · have : cz = [] := List.eq_nil_of_length_eq_zero h0
    subst this
    simp [madeCells]
  · apply List.ext_getElem?
    intro i
    by_cases hi : i < n * cz.length
    · have hd : i / cz.length < n := (Nat.div_lt_iff_lt_mul h0).2 hi
      have hm : i % cz.length < cz.length := Nat.mod_lt _ h0
      have e1 : i = (i / cz.length) * cz.length + i % cz.length := by rw [Nat.mul_comm]; exact (Nat.div_add_mod i cz.length).symm
      have key : ∀ (n q r : Nat), q < n → r < cz.length → (List.replicate n cz).flatten[q * cz.length + r]? = cz[r]? := by
        intro n
        induction n with
        | zero => intro q r hq; omega
        | succ n ih =>
          intro q r hq hr
          rw [List.replicate_succ, List.flatten_cons]
          cases q with
          | zero => rw [Nat.zero_mul, Nat.zero_add, List.getElem?_append_left hr]
          | succ q =>
            rw [List.getElem?_append_right (by rw [Nat.succ_mul]; omega), show (q + 1) * cz.length + r - cz.length = q * cz.length + r from by rw [Nat.succ_mul]; omega]
            exact ih q r (by omega) hr
      have h2 := key n (i / cz.length) (i % cz.length) hd hm
      rw [← e1] at h2
      rw [h2, List.getElem?_eq_getElem hm]
      simp [madeCells, hi, hm]
    · rw [List.getElem?_eq_none (by simp [madeCells]; omega), List.getElem?_eq_none (by simp; omega)]
theorem orow_made {α : Type} (d : Ty α) (e : Nat) (W : World) (z : α) (cz : List Value) (n : Nat) (hz : ∀ w, d.own w z cz []) (hn : n ≤ 2097152) :
    d.orow e (W.alloc (.cells (madeCells cz.toArray (n * d.sz)) e)) (.slice (some ⟨W.heap.size, 0, none⟩) n n) (List.replicate n z) [W.heap.size] := by
  have hl : cz.length = d.sz := d.len (d.own_rd (hz W))
  have h := World.ownsRow_lit (base := 0) (e := e) (size := d.sz) W (madeCells cz.toArray (n * d.sz)) n (Nat.zero_le _) (by simp only [maxLen]; omega) (by simp [size_madeCells])
  refine ⟨by simpa using hn, _, [], by rw [List.length_replicate]; exact h, ?_, rfl⟩
  have h2 := Ty.elems.rep (hz (W.alloc (.cells (madeCells cz.toArray (n * d.sz)) e))) n
  rw [← hl, madeCells_eq]
  rwa [← hl] at h2

/-- An operation that makes a slice (a literal, a make): the world behind it has a name of its own. -/
theorem wpList_newrow {α : Type} {P : Program} {ops : Array Oper} {rest : List Oper} {o : Oper} {a : Act} {Q : Exit → Act → World → Prop} {W : World} (d : Ty α) (e : Nat) (xs : List α) (n : Nat) (hxs : xs.length = n) (hg : o.guard = none) {v : Value} {w1 : World} {F : List Nat}
    (hrun : (execOp a.eval o).run P W = .ok (.value v) w1) (ho : d.orow e w1 v xs F) (hn : F.Nodup) (hb : ∀ g ∈ F, W.heap.size ≤ g) (hf : Fr W w1)
    (h : ∀ A c w1 F, d.orow e w1 (.slice A n c) xs F → F.Nodup → (∀ g ∈ F, W.heap.size ≤ g) → Fr W w1 → wpList P ops Q rest (a.put o.dst (.slice A n c)) w1) : wpList P ops Q (o :: rest) a W := by
  refine wpList_plain hg fun K hK => ?_
  obtain ⟨A, c, rfl⟩ := ho.row.val
  subst hxs
  have hk := hK _ _ (h A c w1 F ho hn hb hf)
  unfold Oper.wp
  rw [hrun]
  exact hk
/-- Three new blocks. -/
theorem three_new (w : World) (A B C : Obj) : (((w.alloc A).alloc B).alloc C).heap[w.heap.size]? = some A ∧ (((w.alloc A).alloc B).alloc C).heap[w.heap.size + 1]? = some B ∧ (((w.alloc A).alloc B).alloc C).heap[w.heap.size + 1 + 1]? = some C := by
  have h1 := heap_alloc_new w A
  have h2 := heap_alloc_new (w.alloc A) B
  have h3 := heap_alloc_new ((w.alloc A).alloc B) C
  simp only [World.size_alloc] at h2 h3
  refine ⟨?_, ?_, h3⟩
  · rw [Below.heap_alloc _ _ _ (by simp; omega), Below.heap_alloc _ _ _ (by simp), h1]
  · rw [Below.heap_alloc _ _ _ (by simp), h2]
/-- An owned slice of ints, by its block. -/
theorem orow_of_heap {e g : Nat} {w : World} {xs : List Int} {n : Nat} (hx : xs.length = n) (hl : n ≤ 2097152) (h : w.heap[g]? = some (.cells (xs.map (Value.int .i64)).toArray e (0, 0))) : tInt.orow e w (.slice (some ⟨g, 0, none⟩) n n) xs [g] := by
  subst hx
  have he : ∀ ys : List Int, tInt.elems w ys (ys.map (Value.int .i64)) [] := by
    intro ys
    induction ys with
    | nil => exact ⟨rfl, rfl⟩
    | cons y ys ih => exact ⟨[.int .i64 y], _, [], [], rfl, rfl, ⟨rfl, rfl⟩, ih⟩
  exact ⟨hl, _, [], ⟨by simp [tInt], .inr ⟨g, xs.length, _, rfl, Nat.zero_le _, h, Nat.le_refl _, by simp only [maxLen]; omega, by simp [tInt], by simp [tInt]; rw [← List.length_map (f := Value.int .i64), List.take_length]⟩⟩, he xs, rfl⟩
theorem orow_ints_lit (e : Nat) (W : World) (xs : List Int) (hl : xs.length ≤ 2097152) :
    tInt.orow e (W.alloc (.cells (xs.map (Value.int .i64)).toArray e)) (.slice (some ⟨W.heap.size, 0, none⟩) xs.length xs.length) xs [W.heap.size] := by
  have h := World.ownsRow_lit (base := 0) (e := e) (size := 1) W (xs.map (Value.int .i64)).toArray xs.length (Nat.zero_le _) (by simp only [maxLen]; omega) (by simp)
  refine ⟨hl, _, [], h, ?_, rfl⟩
  rw [List.toList_toArray]
  generalize (W.alloc _) = w1
  clear h hl
  induction xs with
  | nil => exact ⟨rfl, rfl⟩
  | cons x xs ih => exact ⟨[.int .i64 x], _, [], [], rfl, rfl, ⟨rfl, rfl⟩, ih⟩

theorem nodup_lt {F G : List Nat} {m n : Nat} (h1 : F.Nodup) (h2 : G.Nodup) (h3 : ∀ a ∈ F, a < m) (hmn : m ≤ n) (h4 : ∀ b ∈ G, n ≤ b) : (F ++ G).Nodup :=
  List.nodup_append.2 ⟨h1, h2, fun a ha b hb e => by have := h3 a ha; have := h4 b hb; omega⟩
theorem lo_append {F G : List Nat} {m n : Nat} (h1 : ∀ a ∈ F, n ≤ a) (h2 : ∀ a ∈ G, m ≤ a) (hm : n ≤ m) : ∀ a ∈ F ++ G, n ≤ a := fun a ha => by
  rcases List.mem_append.1 ha with ha | ha
  · exact h1 a ha
  · exact Nat.le_trans hm (h2 a ha)
theorem lo_mono {F : List Nat} {m n : Nat} (h : ∀ a ∈ F, m ≤ a) (hm : n ≤ m) : ∀ a ∈ F, n ≤ a := fun a ha => Nat.le_trans hm (h a ha)

/-! ## What calls hand back -/
/-- Behind a marking call: the answer, what the marked value now reads as, and what else has turned. -/
def RetMk {α : Type} (d : Ty α) (r : Int) (x : α) (cs : List Value) (F : List Nat) (w : World) : Ending → World → Prop := fun e w' => e = .returned (.int .i64 r) ∧ d.own w' x cs F ∧ Chg F w w'
def RetMkRow {α : Type} (d : Ty α) (e : Nat) (r : Int) (xs : List α) (v : Value) (F : List Nat) (w : World) : Ending → World → Prop := fun en w' => en = .returned (.int .i64 r) ∧ d.orow e w' v xs F ∧ Chg F w w'
/-- A call that hands back a new slice. -/
def RetRow {α : Type} (d : Ty α) (e : Nat) (xs : List α) (w : World) : Ending → World → Prop := fun en w' => ∃ v F, en = .returned v ∧ d.orow e w' v xs F ∧ F.Nodup ∧ (∀ g ∈ F, w.heap.size ≤ g) ∧ Fr w w'
/-- A call that hands back a new struct. -/
def RetOwn {α : Type} (d : Ty α) (x : α) (w : World) : Ending → World → Prop := fun en w' => ∃ cs F, en = .returned (.agg cs.toArray) ∧ d.own w' x cs F ∧ F.Nodup ∧ (∀ g ∈ F, w.heap.size ≤ g) ∧ Fr w w'
/-- A call that hands back a new struct, and a Bool. -/
def RetOwn2 {α : Type} (d : Ty α) (x : α × Bool) (w : World) : Ending → World → Prop := fun en w' => ∃ cs F, en = .returned (.tuple #[.agg cs.toArray, .bool x.2]) ∧ d.own w' x.1 cs F ∧ F.Nodup ∧ (∀ g ∈ F, w.heap.size ≤ g) ∧ Fr w w'
/-- A call that hands back a new struct, an int and a Bool. -/
def RetOwn3 {α : Type} (d : Ty α) (x : α) (n : Int) (b : Bool) (w : World) : Ending → World → Prop := fun en w' => ∃ cs F, en = .returned (.tuple #[.agg cs.toArray, .int .i64 n, .bool b]) ∧ d.own w' x cs F ∧ F.Nodup ∧ (∀ g ∈ F, w.heap.size ≤ g) ∧ Fr w w'
/-- What is left of a size. -/
def szr (left : Int) (n : Nat) : Int := if (n : Int) ≤ left then left - n else -1
end Go.Proofs.Ytapdcgjccckjeaa
namespace Go.Proofs.Ytapdcgjccckjeaa
set_option maxRecDepth 100000
set_option linter.unusedVariables false
set_option linter.unusedSimpArgs false
open Go.RowKit

/-- A part of memory: its blocks, and what holds of it. -/
structure Asrt where
  fp : List Nat
  ok : World → Prop
  lt : ∀ {w : World}, ok w → ∀ g ∈ fp, g < w.heap.size
  keep : ∀ {w w' : World}, ok w → (∀ g ∈ fp, w'.heap[g]? = w.heap[g]?) → ok w'
def aBox (g t n : Nat) (cs : List Value) : Asrt where
  fp := [g]
  ok := fun w => Box w g t cs.toArray ∧ cs.length = n
  lt := fun h q hq => by rw [List.mem_singleton.1 hq]; exact h.1.lt
  keep := fun h hk => ⟨⟨(hk g (by simp)).trans h.1.blk⟩, h.2⟩
def aOwn {α : Type} (d : Ty α) (x : α) (cs : List Value) (F : List Nat) : Asrt where
  fp := F
  ok := fun w => d.own w x cs F
  lt := fun h => d.own_lt h
  keep := fun h hk => d.keep h hk
def aRow {α : Type} (d : Ty α) (e : Nat) (xs : List α) (v : Value) (F : List Nat) : Asrt where
  fp := F
  ok := fun w => d.orow e w v xs F
  lt := fun h => h.lt
  keep := fun h hk => h.keep hk
/-- What reads as x, whatever turns but the blocks F. -/
def aRd {α : Type} (d : Ty α) (x : α) (cs : List Value) (F : List Nat) : Asrt where
  fp := F
  ok := fun w => (∀ g ∈ F, g < w.heap.size) ∧ ∀ w' : World, (∀ g ∈ F, w'.heap[g]? = w.heap[g]?) → d.rd w' x cs
  lt := fun h => h.1
  keep := fun {w w'} h hk => ⟨fun g hg => by
    have h1 := h.1 g hg
    have h2 := hk g hg
    rw [Array.getElem?_eq_getElem h1] at h2
    exact (Array.getElem?_eq_some_iff.1 h2).1, fun w'' hk' => h.2 w'' fun g hg => (hk' g hg).trans (hk g hg)⟩
def fps : List Asrt → List Nat
  | [] => []
  | a :: L => a.fp ++ fps L
theorem fps_append : ∀ A B : List Asrt, fps (A ++ B) = fps A ++ fps B
  | [], B => rfl
  | a :: A, B => by simp [fps, fps_append A B]
theorem mem_fps : ∀ {L : List Asrt} {g : Nat}, g ∈ fps L → ∃ a ∈ L, g ∈ a.fp
  | [], _, h => by cases h
  | a :: L, g, h => by
    rcases List.mem_append.1 h with h | h
    · exact ⟨a, by simp, h⟩
    · obtain ⟨b, hb, hg⟩ := mem_fps h
      exact ⟨b, List.mem_cons_of_mem _ hb, hg⟩
/-- Since w0 nothing has turned but the blocks F0; what is listed holds, each in blocks of its own, none of them older than the call but those of F0. -/
structure Sep (F0 : List Nat) (w0 : World) (L : List Asrt) (w : World) : Prop where
  chg : Chg F0 w0 w
  ok : ∀ a ∈ L, a.ok w
  base : ∀ a ∈ L, ∀ g ∈ a.fp, g ∈ F0 ∨ w0.heap.size ≤ g
  nd : (fps L).Nodup
inductive Put : List Asrt → Asrt → Asrt → List Asrt → Prop
  | head (a a' : Asrt) (L : List Asrt) : Put (a :: L) a a' (a' :: L)
  | tail (b : Asrt) {a a' : Asrt} {L L' : List Asrt} (h : Put L a a' L') : Put (b :: L) a a' (b :: L')
inductive Del : List Asrt → Asrt → List Asrt → Prop
  | head (a : Asrt) (L : List Asrt) : Del (a :: L) a L
  | tail (b : Asrt) {a : Asrt} {L L' : List Asrt} (h : Del L a L') : Del (b :: L) a (b :: L')
theorem Put.parts {L L' : List Asrt} {a a' : Asrt} (h : Put L a a' L') : ∃ A B, L = A ++ a :: B ∧ L' = A ++ a' :: B := by
  induction h with
  | head a a' L => exact ⟨[], L, rfl, rfl⟩
  | tail b _ ih =>
    obtain ⟨A, B, rfl, rfl⟩ := ih
    exact ⟨b :: A, B, rfl, rfl⟩
theorem Del.parts {L L' : List Asrt} {a : Asrt} (h : Del L a L') : ∃ A B, L = A ++ a :: B ∧ L' = A ++ B := by
  induction h with
  | head a L => exact ⟨[], L, rfl, rfl⟩
  | tail b _ ih =>
    obtain ⟨A, B, rfl, rfl⟩ := ih
    exact ⟨b :: A, B, rfl, rfl⟩
section
variable {F0 : List Nat} {w0 w w' : World} {L L' : List Asrt} {a a' : Asrt}
theorem Sep.start (w : World) : Sep [] w [] w := ⟨Chg.refl _ _, (fun a h => by cases h), (fun a h => by cases h), List.nodup_nil⟩
theorem Sep.startOwn {α : Type} {d : Ty α} {x : α} {cs : List Value} {F : List Nat} (h : d.own w x cs F) (hn : F.Nodup) : Sep F w [aOwn d x cs F] w :=
  ⟨Chg.refl _ _, (fun a ha => by rw [List.mem_singleton.1 ha]; exact h), (fun a ha g hg => by rw [List.mem_singleton.1 ha] at hg; exact .inl hg), by simpa [fps, aOwn] using hn⟩
theorem Sep.startRow {α : Type} {d : Ty α} {e : Nat} {xs : List α} {v : Value} {F : List Nat} (h : d.orow e w v xs F) (hn : F.Nodup) : Sep F w [aRow d e xs v F] w :=
  ⟨Chg.refl _ _, (fun a ha => by rw [List.mem_singleton.1 ha]; exact h), (fun a ha g hg => by rw [List.mem_singleton.1 ha] at hg; exact .inl hg), by simpa [fps, aRow] using hn⟩
theorem Sep.fr (S : Sep F0 w0 L w) (f : Fr w w') : Sep F0 w0 L w' :=
  ⟨S.chg.fr f, fun a ha => a.keep (S.ok a ha) (fun g hg => f.block g (a.lt (S.ok a ha) g hg) (by simp)), S.base, S.nd⟩
theorem Sep.drewN (S : Sep F0 w0 L w) (n : Nat) : Sep F0 w0 L (w.drewN n) := S.fr ((Fr.refl w).drewN n)
theorem Sep.drew (S : Sep F0 w0 L w) : Sep F0 w0 L w.drew := S.fr ((Fr.refl w).drew)
theorem Sep.new (S : Sep F0 w0 L w) (a : Asrt) (h : a.ok w') (hn : a.fp.Nodup) (hb : ∀ g ∈ a.fp, w.heap.size ≤ g) (f : Fr w w') : Sep F0 w0 (a :: L) w' := by
  have S' := S.fr f
  refine ⟨S'.chg, fun b hm => ?_, fun b hm => ?_, ?_⟩
  · rcases List.mem_cons.1 hm with rfl | hm
    · exact h
    · exact S'.ok _ hm
  · rcases List.mem_cons.1 hm with rfl | hm
    · exact fun g hg => .inr (Nat.le_trans S.chg.size (hb g hg))
    · exact S'.base _ hm
  · refine List.nodup_append.2 ⟨hn, S.nd, fun x hx y hy e => ?_⟩
    obtain ⟨b, hm, hg⟩ := mem_fps hy
    have h1 := b.lt (S.ok b hm) y hg
    have h2 := hb x hx
    omega
theorem Sep.put (S : Sep F0 w0 L w) (p : Put L a a' L') (hf : a'.fp = a.fp) (h : a'.ok w') (c : Chg a.fp w w') : Sep F0 w0 L' w' := by
  obtain ⟨A, B, rfl, rfl⟩ := p.parts
  have hnd := S.nd
  simp only [fps_append, fps] at hnd
  obtain ⟨n1, n2, n3⟩ := List.nodup_append.1 hnd
  obtain ⟨n4, n5, n6⟩ := List.nodup_append.1 n2
  have hA : ∀ b ∈ A, ∀ g ∈ b.fp, g ∈ fps A := fun b hb g hg => by
    obtain ⟨A1, A2, rfl⟩ := List.append_of_mem hb
    simp [fps_append, fps, hg]
  have hB : ∀ b ∈ B, ∀ g ∈ b.fp, g ∈ fps B := fun b hb g hg => by
    obtain ⟨A1, A2, rfl⟩ := List.append_of_mem hb
    simp [fps_append, fps, hg]
  refine ⟨S.chg.trans c (S.base a (by simp)), fun b hb => ?_, fun b hb => ?_, ?_⟩
  · rcases List.mem_append.1 hb with hb | hb
    · have ho := S.ok b (by simp [hb])
      exact b.keep ho (fun g hg => c.block g (b.lt ho g hg) (fun hga => n3 g (hA b hb g hg) g (by simp [hga]) rfl))
    · rcases List.mem_cons.1 hb with rfl | hb
      · exact h
      · have ho := S.ok b (by simp [hb])
        exact b.keep ho (fun g hg => c.block g (b.lt ho g hg) (fun hga => n6 g hga g (hB b hb g hg) rfl))
  · rcases List.mem_append.1 hb with hb | hb
    · exact S.base b (by simp [hb])
    · rcases List.mem_cons.1 hb with rfl | hb
      · rw [hf]; exact S.base a (by simp)
      · exact S.base b (by simp [hb])
  · simp only [fps_append, fps, hf]
    exact hnd
theorem Sep.putBox {g t n n' : Nat} {cs cs' : List Value} (S : Sep F0 w0 L w) (p : Put L (aBox g t n cs) (aBox g t n' cs') L') (h : Box w' g t cs'.toArray) (hn : cs'.length = n') (c : Chg [g] w w') : Sep F0 w0 L' w' := S.put p rfl ⟨h, hn⟩ c
theorem Sep.putOwn {α : Type} {d : Ty α} {x y : α} {cs cs' : List Value} {F : List Nat} (S : Sep F0 w0 L w) (p : Put L (aOwn d x cs F) (aOwn d y cs' F) L') (h : d.own w' y cs' F) (c : Chg F w w') : Sep F0 w0 L' w' := S.put p rfl h c
theorem Sep.putRow {α : Type} {d : Ty α} {e : Nat} {xs ys : List α} {v v' : Value} {F : List Nat} (S : Sep F0 w0 L w) (p : Put L (aRow d e xs v F) (aRow d e ys v' F) L') (h : d.orow e w' v' ys F) (c : Chg F w w') : Sep F0 w0 L' w' := S.put p rfl h c
theorem Sep.pull (S : Sep F0 w0 L w) (p : Del L a L') : Sep F0 w0 (a :: L') w := by
  obtain ⟨A, B, rfl, rfl⟩ := p.parts
  have hp : (A ++ a :: B).Perm (a :: (A ++ B)) := List.perm_middle
  refine ⟨S.chg, fun b hb => S.ok b (hp.mem_iff.2 hb), fun b hb => S.base b (hp.mem_iff.2 hb), ?_⟩
  have hnd := S.nd
  simp only [fps_append, fps] at hnd ⊢
  refine List.Perm.nodup ?_ hnd
  rw [← List.append_assoc, ← List.append_assoc]
  exact List.Perm.append_right _ List.perm_append_comm
theorem Sep.drop (S : Sep F0 w0 (a :: L) w) : Sep F0 w0 L w := ⟨S.chg, fun b hb => S.ok b (List.mem_cons_of_mem _ hb), fun b hb => S.base b (List.mem_cons_of_mem _ hb), (List.nodup_append.1 S.nd).2.1⟩
theorem Sep.rest (S : Sep F0 w0 L w) (p : Del L a L') : Sep F0 w0 L' w := (S.pull p).drop
/-- A part taken apart. -/
theorem Sep.conv (S : Sep F0 w0 (a :: L) w) (as : List Asrt) (hf : fps as = a.fp) (h : ∀ b ∈ as, b.ok w) : Sep F0 w0 (as ++ L) w := by
  refine ⟨S.chg, fun b hb => ?_, fun b hb g hg => ?_, ?_⟩
  · rcases List.mem_append.1 hb with hb | hb
    · exact h b hb
    · exact S.ok b (List.mem_cons_of_mem _ hb)
  · rcases List.mem_append.1 hb with hb | hb
    · refine S.base a (by simp) g ?_
      rw [← hf]
      obtain ⟨A1, A2, rfl⟩ := List.append_of_mem hb
      simp [fps_append, fps, hg]
    · exact S.base b (List.mem_cons_of_mem _ hb) g hg
  · rw [fps_append, hf]; exact S.nd
/-- Parts put together. -/
theorem Sep.join (as : List Asrt) (S : Sep F0 w0 (as ++ L) w) (a : Asrt) (hf : a.fp = fps as) (h : (∀ b ∈ as, b.ok w) → a.ok w) : Sep F0 w0 (a :: L) w := by
  refine ⟨S.chg, fun b hb => ?_, fun b hb g hg => ?_, ?_⟩
  · rcases List.mem_cons.1 hb with rfl | hb
    · exact h (fun b hb => S.ok b (by simp [hb]))
    · exact S.ok b (by simp [hb])
  · rcases List.mem_cons.1 hb with rfl | hb
    · rw [hf] at hg
      obtain ⟨c, hc, hg⟩ := mem_fps hg
      exact S.base c (by simp [hc]) g hg
    · exact S.base b (by simp [hb]) g hg
  · have := S.nd
    rw [fps_append, ← hf] at this
    exact this
theorem Sep.left (A : List Asrt) {B : List Asrt} (S : Sep F0 w0 (A ++ B) w) : Sep F0 w0 A w :=
  ⟨S.chg, (fun b hb => S.ok b (by simp [hb])), (fun b hb => S.base b (by simp [hb])), by have := S.nd; rw [fps_append] at this; exact (List.nodup_append.1 this).1⟩
theorem Sep.sub (S : Sep F0 w0 L w) (h : L'.Sublist L) : Sep F0 w0 L' w := by
  refine ⟨S.chg, fun b hb => S.ok b (h.subset hb), fun b hb => S.base b (h.subset hb), ?_⟩
  have hf : (fps L').Sublist (fps L) := by
    clear S
    induction h with
    | slnil => exact List.Sublist.refl _
    | cons a _ ih => exact ih.trans (List.sublist_append_right _ _)
    | cons_cons a _ ih => exact List.Sublist.append (List.Sublist.refl _) ih
  exact hf.nodup S.nd
theorem Sep.only1 {L1 : List Asrt} {a1 : Asrt} (S : Sep F0 w0 L w) (p1 : Del L a1 L1) : Sep F0 w0 [a1] w := by
  have T1 := S.pull p1
  have U1 := T1
  exact U1.left [a1]
theorem Sep.only2 {L1 : List Asrt} {a1 : Asrt} {L2 : List Asrt} {a2 : Asrt} (S : Sep F0 w0 L w) (p1 : Del L a1 L1) (p2 : Del L1 a2 L2) : Sep F0 w0 [a1, a2] w := by
  have T1 := S.pull p1
  have T2 := T1.pull (.tail _ p2)
  have U2 := T2
  have U1 := U2.pull (.tail _ (.head _ _))
  exact U1.left [a1, a2]
theorem Sep.only3 {L1 : List Asrt} {a1 : Asrt} {L2 : List Asrt} {a2 : Asrt} {L3 : List Asrt} {a3 : Asrt} (S : Sep F0 w0 L w) (p1 : Del L a1 L1) (p2 : Del L1 a2 L2) (p3 : Del L2 a3 L3) : Sep F0 w0 [a1, a2, a3] w := by
  have T1 := S.pull p1
  have T2 := T1.pull (.tail _ p2)
  have T3 := T2.pull (.tail _ (.tail _ p3))
  have U3 := T3
  have U2 := U3.pull (.tail _ (.head _ _))
  have U1 := U2.pull (.tail _ (.tail _ (.head _ _)))
  exact U1.left [a1, a2, a3]
theorem Sep.only4 {L1 : List Asrt} {a1 : Asrt} {L2 : List Asrt} {a2 : Asrt} {L3 : List Asrt} {a3 : Asrt} {L4 : List Asrt} {a4 : Asrt} (S : Sep F0 w0 L w) (p1 : Del L a1 L1) (p2 : Del L1 a2 L2) (p3 : Del L2 a3 L3) (p4 : Del L3 a4 L4) : Sep F0 w0 [a1, a2, a3, a4] w := by
  have T1 := S.pull p1
  have T2 := T1.pull (.tail _ p2)
  have T3 := T2.pull (.tail _ (.tail _ p3))
  have T4 := T3.pull (.tail _ (.tail _ (.tail _ p4)))
  have U4 := T4
  have U3 := U4.pull (.tail _ (.head _ _))
  have U2 := U3.pull (.tail _ (.tail _ (.head _ _)))
  have U1 := U2.pull (.tail _ (.tail _ (.tail _ (.head _ _))))
  exact U1.left [a1, a2, a3, a4]
theorem Sep.only5 {L1 : List Asrt} {a1 : Asrt} {L2 : List Asrt} {a2 : Asrt} {L3 : List Asrt} {a3 : Asrt} {L4 : List Asrt} {a4 : Asrt} {L5 : List Asrt} {a5 : Asrt} (S : Sep F0 w0 L w) (p1 : Del L a1 L1) (p2 : Del L1 a2 L2) (p3 : Del L2 a3 L3) (p4 : Del L3 a4 L4) (p5 : Del L4 a5 L5) : Sep F0 w0 [a1, a2, a3, a4, a5] w := by
  have T1 := S.pull p1
  have T2 := T1.pull (.tail _ p2)
  have T3 := T2.pull (.tail _ (.tail _ p3))
  have T4 := T3.pull (.tail _ (.tail _ (.tail _ p4)))
  have T5 := T4.pull (.tail _ (.tail _ (.tail _ (.tail _ p5))))
  have U5 := T5
  have U4 := U5.pull (.tail _ (.head _ _))
  have U3 := U4.pull (.tail _ (.tail _ (.head _ _)))
  have U2 := U3.pull (.tail _ (.tail _ (.tail _ (.head _ _))))
  have U1 := U2.pull (.tail _ (.tail _ (.tail _ (.tail _ (.head _ _)))))
  exact U1.left [a1, a2, a3, a4, a5]
theorem Sep.only6 {L1 : List Asrt} {a1 : Asrt} {L2 : List Asrt} {a2 : Asrt} {L3 : List Asrt} {a3 : Asrt} {L4 : List Asrt} {a4 : Asrt} {L5 : List Asrt} {a5 : Asrt} {L6 : List Asrt} {a6 : Asrt} (S : Sep F0 w0 L w) (p1 : Del L a1 L1) (p2 : Del L1 a2 L2) (p3 : Del L2 a3 L3) (p4 : Del L3 a4 L4) (p5 : Del L4 a5 L5) (p6 : Del L5 a6 L6) : Sep F0 w0 [a1, a2, a3, a4, a5, a6] w := by
  have T1 := S.pull p1
  have T2 := T1.pull (.tail _ p2)
  have T3 := T2.pull (.tail _ (.tail _ p3))
  have T4 := T3.pull (.tail _ (.tail _ (.tail _ p4)))
  have T5 := T4.pull (.tail _ (.tail _ (.tail _ (.tail _ p5))))
  have T6 := T5.pull (.tail _ (.tail _ (.tail _ (.tail _ (.tail _ p6)))))
  have U6 := T6
  have U5 := U6.pull (.tail _ (.head _ _))
  have U4 := U5.pull (.tail _ (.tail _ (.head _ _)))
  have U3 := U4.pull (.tail _ (.tail _ (.tail _ (.head _ _))))
  have U2 := U3.pull (.tail _ (.tail _ (.tail _ (.tail _ (.head _ _)))))
  have U1 := U2.pull (.tail _ (.tail _ (.tail _ (.tail _ (.tail _ (.head _ _))))))
  exact U1.left [a1, a2, a3, a4, a5, a6]
theorem Sep.only7 {L1 : List Asrt} {a1 : Asrt} {L2 : List Asrt} {a2 : Asrt} {L3 : List Asrt} {a3 : Asrt} {L4 : List Asrt} {a4 : Asrt} {L5 : List Asrt} {a5 : Asrt} {L6 : List Asrt} {a6 : Asrt} {L7 : List Asrt} {a7 : Asrt} (S : Sep F0 w0 L w) (p1 : Del L a1 L1) (p2 : Del L1 a2 L2) (p3 : Del L2 a3 L3) (p4 : Del L3 a4 L4) (p5 : Del L4 a5 L5) (p6 : Del L5 a6 L6) (p7 : Del L6 a7 L7) : Sep F0 w0 [a1, a2, a3, a4, a5, a6, a7] w := by
  have T1 := S.pull p1
  have T2 := T1.pull (.tail _ p2)
  have T3 := T2.pull (.tail _ (.tail _ p3))
  have T4 := T3.pull (.tail _ (.tail _ (.tail _ p4)))
  have T5 := T4.pull (.tail _ (.tail _ (.tail _ (.tail _ p5))))
  have T6 := T5.pull (.tail _ (.tail _ (.tail _ (.tail _ (.tail _ p6)))))
  have T7 := T6.pull (.tail _ (.tail _ (.tail _ (.tail _ (.tail _ (.tail _ p7))))))
  have U7 := T7
  have U6 := U7.pull (.tail _ (.head _ _))
  have U5 := U6.pull (.tail _ (.tail _ (.head _ _)))
  have U4 := U5.pull (.tail _ (.tail _ (.tail _ (.head _ _))))
  have U3 := U4.pull (.tail _ (.tail _ (.tail _ (.tail _ (.head _ _)))))
  have U2 := U3.pull (.tail _ (.tail _ (.tail _ (.tail _ (.tail _ (.head _ _))))))
  have U1 := U2.pull (.tail _ (.tail _ (.tail _ (.tail _ (.tail _ (.tail _ (.head _ _)))))))
  exact U1.left [a1, a2, a3, a4, a5, a6, a7]
theorem Sep.only8 {L1 : List Asrt} {a1 : Asrt} {L2 : List Asrt} {a2 : Asrt} {L3 : List Asrt} {a3 : Asrt} {L4 : List Asrt} {a4 : Asrt} {L5 : List Asrt} {a5 : Asrt} {L6 : List Asrt} {a6 : Asrt} {L7 : List Asrt} {a7 : Asrt} {L8 : List Asrt} {a8 : Asrt} (S : Sep F0 w0 L w) (p1 : Del L a1 L1) (p2 : Del L1 a2 L2) (p3 : Del L2 a3 L3) (p4 : Del L3 a4 L4) (p5 : Del L4 a5 L5) (p6 : Del L5 a6 L6) (p7 : Del L6 a7 L7) (p8 : Del L7 a8 L8) : Sep F0 w0 [a1, a2, a3, a4, a5, a6, a7, a8] w := by
  have T1 := S.pull p1
  have T2 := T1.pull (.tail _ p2)
  have T3 := T2.pull (.tail _ (.tail _ p3))
  have T4 := T3.pull (.tail _ (.tail _ (.tail _ p4)))
  have T5 := T4.pull (.tail _ (.tail _ (.tail _ (.tail _ p5))))
  have T6 := T5.pull (.tail _ (.tail _ (.tail _ (.tail _ (.tail _ p6)))))
  have T7 := T6.pull (.tail _ (.tail _ (.tail _ (.tail _ (.tail _ (.tail _ p7))))))
  have T8 := T7.pull (.tail _ (.tail _ (.tail _ (.tail _ (.tail _ (.tail _ (.tail _ p8)))))))
  have U8 := T8
  have U7 := U8.pull (.tail _ (.head _ _))
  have U6 := U7.pull (.tail _ (.tail _ (.head _ _)))
  have U5 := U6.pull (.tail _ (.tail _ (.tail _ (.head _ _))))
  have U4 := U5.pull (.tail _ (.tail _ (.tail _ (.tail _ (.head _ _)))))
  have U3 := U4.pull (.tail _ (.tail _ (.tail _ (.tail _ (.tail _ (.head _ _))))))
  have U2 := U3.pull (.tail _ (.tail _ (.tail _ (.tail _ (.tail _ (.tail _ (.head _ _)))))))
  have U1 := U2.pull (.tail _ (.tail _ (.tail _ (.tail _ (.tail _ (.tail _ (.tail _ (.head _ _))))))))
  exact U1.left [a1, a2, a3, a4, a5, a6, a7, a8]
theorem Sep.only9 {L1 : List Asrt} {a1 : Asrt} {L2 : List Asrt} {a2 : Asrt} {L3 : List Asrt} {a3 : Asrt} {L4 : List Asrt} {a4 : Asrt} {L5 : List Asrt} {a5 : Asrt} {L6 : List Asrt} {a6 : Asrt} {L7 : List Asrt} {a7 : Asrt} {L8 : List Asrt} {a8 : Asrt} {L9 : List Asrt} {a9 : Asrt} (S : Sep F0 w0 L w) (p1 : Del L a1 L1) (p2 : Del L1 a2 L2) (p3 : Del L2 a3 L3) (p4 : Del L3 a4 L4) (p5 : Del L4 a5 L5) (p6 : Del L5 a6 L6) (p7 : Del L6 a7 L7) (p8 : Del L7 a8 L8) (p9 : Del L8 a9 L9) : Sep F0 w0 [a1, a2, a3, a4, a5, a6, a7, a8, a9] w := by
  have T1 := S.pull p1
  have T2 := T1.pull (.tail _ p2)
  have T3 := T2.pull (.tail _ (.tail _ p3))
  have T4 := T3.pull (.tail _ (.tail _ (.tail _ p4)))
  have T5 := T4.pull (.tail _ (.tail _ (.tail _ (.tail _ p5))))
  have T6 := T5.pull (.tail _ (.tail _ (.tail _ (.tail _ (.tail _ p6)))))
  have T7 := T6.pull (.tail _ (.tail _ (.tail _ (.tail _ (.tail _ (.tail _ p7))))))
  have T8 := T7.pull (.tail _ (.tail _ (.tail _ (.tail _ (.tail _ (.tail _ (.tail _ p8)))))))
  have T9 := T8.pull (.tail _ (.tail _ (.tail _ (.tail _ (.tail _ (.tail _ (.tail _ (.tail _ p9))))))))
  have U9 := T9
  have U8 := U9.pull (.tail _ (.head _ _))
  have U7 := U8.pull (.tail _ (.tail _ (.head _ _)))
  have U6 := U7.pull (.tail _ (.tail _ (.tail _ (.head _ _))))
  have U5 := U6.pull (.tail _ (.tail _ (.tail _ (.tail _ (.head _ _)))))
  have U4 := U5.pull (.tail _ (.tail _ (.tail _ (.tail _ (.tail _ (.head _ _))))))
  have U3 := U4.pull (.tail _ (.tail _ (.tail _ (.tail _ (.tail _ (.tail _ (.head _ _)))))))
  have U2 := U3.pull (.tail _ (.tail _ (.tail _ (.tail _ (.tail _ (.tail _ (.tail _ (.head _ _))))))))
  have U1 := U2.pull (.tail _ (.tail _ (.tail _ (.tail _ (.tail _ (.tail _ (.tail _ (.tail _ (.head _ _)))))))))
  exact U1.left [a1, a2, a3, a4, a5, a6, a7, a8, a9]
theorem Sep.only10 {L1 : List Asrt} {a1 : Asrt} {L2 : List Asrt} {a2 : Asrt} {L3 : List Asrt} {a3 : Asrt} {L4 : List Asrt} {a4 : Asrt} {L5 : List Asrt} {a5 : Asrt} {L6 : List Asrt} {a6 : Asrt} {L7 : List Asrt} {a7 : Asrt} {L8 : List Asrt} {a8 : Asrt} {L9 : List Asrt} {a9 : Asrt} {L10 : List Asrt} {a10 : Asrt} (S : Sep F0 w0 L w) (p1 : Del L a1 L1) (p2 : Del L1 a2 L2) (p3 : Del L2 a3 L3) (p4 : Del L3 a4 L4) (p5 : Del L4 a5 L5) (p6 : Del L5 a6 L6) (p7 : Del L6 a7 L7) (p8 : Del L7 a8 L8) (p9 : Del L8 a9 L9) (p10 : Del L9 a10 L10) : Sep F0 w0 [a1, a2, a3, a4, a5, a6, a7, a8, a9, a10] w := by
  have T1 := S.pull p1
  have T2 := T1.pull (.tail _ p2)
  have T3 := T2.pull (.tail _ (.tail _ p3))
  have T4 := T3.pull (.tail _ (.tail _ (.tail _ p4)))
  have T5 := T4.pull (.tail _ (.tail _ (.tail _ (.tail _ p5))))
  have T6 := T5.pull (.tail _ (.tail _ (.tail _ (.tail _ (.tail _ p6)))))
  have T7 := T6.pull (.tail _ (.tail _ (.tail _ (.tail _ (.tail _ (.tail _ p7))))))
  have T8 := T7.pull (.tail _ (.tail _ (.tail _ (.tail _ (.tail _ (.tail _ (.tail _ p8)))))))
  have T9 := T8.pull (.tail _ (.tail _ (.tail _ (.tail _ (.tail _ (.tail _ (.tail _ (.tail _ p9))))))))
  have T10 := T9.pull (.tail _ (.tail _ (.tail _ (.tail _ (.tail _ (.tail _ (.tail _ (.tail _ (.tail _ p10)))))))))
  have U10 := T10
  have U9 := U10.pull (.tail _ (.head _ _))
  have U8 := U9.pull (.tail _ (.tail _ (.head _ _)))
  have U7 := U8.pull (.tail _ (.tail _ (.tail _ (.head _ _))))
  have U6 := U7.pull (.tail _ (.tail _ (.tail _ (.tail _ (.head _ _)))))
  have U5 := U6.pull (.tail _ (.tail _ (.tail _ (.tail _ (.tail _ (.head _ _))))))
  have U4 := U5.pull (.tail _ (.tail _ (.tail _ (.tail _ (.tail _ (.tail _ (.head _ _)))))))
  have U3 := U4.pull (.tail _ (.tail _ (.tail _ (.tail _ (.tail _ (.tail _ (.tail _ (.head _ _))))))))
  have U2 := U3.pull (.tail _ (.tail _ (.tail _ (.tail _ (.tail _ (.tail _ (.tail _ (.tail _ (.head _ _)))))))))
  have U1 := U2.pull (.tail _ (.tail _ (.tail _ (.tail _ (.tail _ (.tail _ (.tail _ (.tail _ (.tail _ (.head _ _))))))))))
  exact U1.left [a1, a2, a3, a4, a5, a6, a7, a8, a9, a10]
theorem Sep.only11 {L1 : List Asrt} {a1 : Asrt} {L2 : List Asrt} {a2 : Asrt} {L3 : List Asrt} {a3 : Asrt} {L4 : List Asrt} {a4 : Asrt} {L5 : List Asrt} {a5 : Asrt} {L6 : List Asrt} {a6 : Asrt} {L7 : List Asrt} {a7 : Asrt} {L8 : List Asrt} {a8 : Asrt} {L9 : List Asrt} {a9 : Asrt} {L10 : List Asrt} {a10 : Asrt} {L11 : List Asrt} {a11 : Asrt} (S : Sep F0 w0 L w) (p1 : Del L a1 L1) (p2 : Del L1 a2 L2) (p3 : Del L2 a3 L3) (p4 : Del L3 a4 L4) (p5 : Del L4 a5 L5) (p6 : Del L5 a6 L6) (p7 : Del L6 a7 L7) (p8 : Del L7 a8 L8) (p9 : Del L8 a9 L9) (p10 : Del L9 a10 L10) (p11 : Del L10 a11 L11) : Sep F0 w0 [a1, a2, a3, a4, a5, a6, a7, a8, a9, a10, a11] w := by
  have T1 := S.pull p1
  have T2 := T1.pull (.tail _ p2)
  have T3 := T2.pull (.tail _ (.tail _ p3))
  have T4 := T3.pull (.tail _ (.tail _ (.tail _ p4)))
  have T5 := T4.pull (.tail _ (.tail _ (.tail _ (.tail _ p5))))
  have T6 := T5.pull (.tail _ (.tail _ (.tail _ (.tail _ (.tail _ p6)))))
  have T7 := T6.pull (.tail _ (.tail _ (.tail _ (.tail _ (.tail _ (.tail _ p7))))))
  have T8 := T7.pull (.tail _ (.tail _ (.tail _ (.tail _ (.tail _ (.tail _ (.tail _ p8)))))))
  have T9 := T8.pull (.tail _ (.tail _ (.tail _ (.tail _ (.tail _ (.tail _ (.tail _ (.tail _ p9))))))))
  have T10 := T9.pull (.tail _ (.tail _ (.tail _ (.tail _ (.tail _ (.tail _ (.tail _ (.tail _ (.tail _ p10)))))))))
  have T11 := T10.pull (.tail _ (.tail _ (.tail _ (.tail _ (.tail _ (.tail _ (.tail _ (.tail _ (.tail _ (.tail _ p11))))))))))
  have U11 := T11
  have U10 := U11.pull (.tail _ (.head _ _))
  have U9 := U10.pull (.tail _ (.tail _ (.head _ _)))
  have U8 := U9.pull (.tail _ (.tail _ (.tail _ (.head _ _))))
  have U7 := U8.pull (.tail _ (.tail _ (.tail _ (.tail _ (.head _ _)))))
  have U6 := U7.pull (.tail _ (.tail _ (.tail _ (.tail _ (.tail _ (.head _ _))))))
  have U5 := U6.pull (.tail _ (.tail _ (.tail _ (.tail _ (.tail _ (.tail _ (.head _ _)))))))
  have U4 := U5.pull (.tail _ (.tail _ (.tail _ (.tail _ (.tail _ (.tail _ (.tail _ (.head _ _))))))))
  have U3 := U4.pull (.tail _ (.tail _ (.tail _ (.tail _ (.tail _ (.tail _ (.tail _ (.tail _ (.head _ _)))))))))
  have U2 := U3.pull (.tail _ (.tail _ (.tail _ (.tail _ (.tail _ (.tail _ (.tail _ (.tail _ (.tail _ (.head _ _))))))))))
  have U1 := U2.pull (.tail _ (.tail _ (.tail _ (.tail _ (.tail _ (.tail _ (.tail _ (.tail _ (.tail _ (.tail _ (.head _ _)))))))))))
  exact U1.left [a1, a2, a3, a4, a5, a6, a7, a8, a9, a10, a11]
theorem Sep.only12 {L1 : List Asrt} {a1 : Asrt} {L2 : List Asrt} {a2 : Asrt} {L3 : List Asrt} {a3 : Asrt} {L4 : List Asrt} {a4 : Asrt} {L5 : List Asrt} {a5 : Asrt} {L6 : List Asrt} {a6 : Asrt} {L7 : List Asrt} {a7 : Asrt} {L8 : List Asrt} {a8 : Asrt} {L9 : List Asrt} {a9 : Asrt} {L10 : List Asrt} {a10 : Asrt} {L11 : List Asrt} {a11 : Asrt} {L12 : List Asrt} {a12 : Asrt} (S : Sep F0 w0 L w) (p1 : Del L a1 L1) (p2 : Del L1 a2 L2) (p3 : Del L2 a3 L3) (p4 : Del L3 a4 L4) (p5 : Del L4 a5 L5) (p6 : Del L5 a6 L6) (p7 : Del L6 a7 L7) (p8 : Del L7 a8 L8) (p9 : Del L8 a9 L9) (p10 : Del L9 a10 L10) (p11 : Del L10 a11 L11) (p12 : Del L11 a12 L12) : Sep F0 w0 [a1, a2, a3, a4, a5, a6, a7, a8, a9, a10, a11, a12] w := by
  have T1 := S.pull p1
  have T2 := T1.pull (.tail _ p2)
  have T3 := T2.pull (.tail _ (.tail _ p3))
  have T4 := T3.pull (.tail _ (.tail _ (.tail _ p4)))
  have T5 := T4.pull (.tail _ (.tail _ (.tail _ (.tail _ p5))))
  have T6 := T5.pull (.tail _ (.tail _ (.tail _ (.tail _ (.tail _ p6)))))
  have T7 := T6.pull (.tail _ (.tail _ (.tail _ (.tail _ (.tail _ (.tail _ p7))))))
  have T8 := T7.pull (.tail _ (.tail _ (.tail _ (.tail _ (.tail _ (.tail _ (.tail _ p8)))))))
  have T9 := T8.pull (.tail _ (.tail _ (.tail _ (.tail _ (.tail _ (.tail _ (.tail _ (.tail _ p9))))))))
  have T10 := T9.pull (.tail _ (.tail _ (.tail _ (.tail _ (.tail _ (.tail _ (.tail _ (.tail _ (.tail _ p10)))))))))
  have T11 := T10.pull (.tail _ (.tail _ (.tail _ (.tail _ (.tail _ (.tail _ (.tail _ (.tail _ (.tail _ (.tail _ p11))))))))))
  have T12 := T11.pull (.tail _ (.tail _ (.tail _ (.tail _ (.tail _ (.tail _ (.tail _ (.tail _ (.tail _ (.tail _ (.tail _ p12)))))))))))
  have U12 := T12
  have U11 := U12.pull (.tail _ (.head _ _))
  have U10 := U11.pull (.tail _ (.tail _ (.head _ _)))
  have U9 := U10.pull (.tail _ (.tail _ (.tail _ (.head _ _))))
  have U8 := U9.pull (.tail _ (.tail _ (.tail _ (.tail _ (.head _ _)))))
  have U7 := U8.pull (.tail _ (.tail _ (.tail _ (.tail _ (.tail _ (.head _ _))))))
  have U6 := U7.pull (.tail _ (.tail _ (.tail _ (.tail _ (.tail _ (.tail _ (.head _ _)))))))
  have U5 := U6.pull (.tail _ (.tail _ (.tail _ (.tail _ (.tail _ (.tail _ (.tail _ (.head _ _))))))))
  have U4 := U5.pull (.tail _ (.tail _ (.tail _ (.tail _ (.tail _ (.tail _ (.tail _ (.tail _ (.head _ _)))))))))
  have U3 := U4.pull (.tail _ (.tail _ (.tail _ (.tail _ (.tail _ (.tail _ (.tail _ (.tail _ (.tail _ (.head _ _))))))))))
  have U2 := U3.pull (.tail _ (.tail _ (.tail _ (.tail _ (.tail _ (.tail _ (.tail _ (.tail _ (.tail _ (.tail _ (.head _ _)))))))))))
  have U1 := U2.pull (.tail _ (.tail _ (.tail _ (.tail _ (.tail _ (.tail _ (.tail _ (.tail _ (.tail _ (.tail _ (.tail _ (.head _ _))))))))))))
  exact U1.left [a1, a2, a3, a4, a5, a6, a7, a8, a9, a10, a11, a12]
/-- A call that was handed the parts A, and leaves A' for them. -/
theorem Sep.call (A : List Asrt) {A' B : List Asrt} (S : Sep F0 w0 (A ++ B) w) (T : Sep (fps A) w A' w') : Sep F0 w0 (A' ++ B) w' := by
  have hnd := S.nd
  rw [fps_append] at hnd
  obtain ⟨n1, n2, n3⟩ := List.nodup_append.1 hnd
  have hA : ∀ g ∈ fps A, g ∈ F0 ∨ w0.heap.size ≤ g := fun g hg => by
    obtain ⟨a, ha, hg⟩ := mem_fps hg
    exact S.base a (by simp [ha]) g hg
  have hB : ∀ b ∈ B, ∀ g ∈ b.fp, g ∈ fps B := fun b hb g hg => by
    obtain ⟨A1, A2, rfl⟩ := List.append_of_mem hb
    simp [fps_append, fps, hg]
  refine ⟨S.chg.trans T.chg hA, fun b hb => ?_, fun b hb g hg => ?_, ?_⟩
  · rcases List.mem_append.1 hb with hb | hb
    · exact T.ok b hb
    · have ho := S.ok b (by simp [hb])
      exact b.keep ho (fun g hg => T.chg.block g (b.lt ho g hg) (fun hga => n3 g hga g (hB b hb g hg) rfl))
  · rcases List.mem_append.1 hb with hb | hb
    · rcases T.base b hb g hg with h | h
      · exact hA g h
      · exact .inr (Nat.le_trans S.chg.size h)
    · exact S.base b (by simp [hb]) g hg
  · rw [fps_append]
    refine List.nodup_append.2 ⟨T.nd, n2, fun x hx y hy e => ?_⟩
    subst e
    obtain ⟨a, ha, hx⟩ := mem_fps hx
    rcases T.base a ha x hx with h | h
    · exact n3 x h x hy rfl
    · obtain ⟨b, hb, hy⟩ := mem_fps hy
      have := b.lt (S.ok b (by simp [hb])) x hy
      omega
theorem Sep.callBox {A' : List Asrt} {g t n : Nat} {cs : List Value} (S : Sep F0 w0 L w) (p : Del L (aBox g t n cs) L') (T : Sep [g] w A' w') : Sep F0 w0 (A' ++ L') w' := Sep.call [aBox g t n cs] (S.pull p) T
theorem Sep.callOwn {A' : List Asrt} {α : Type} {d : Ty α} {x : α} {cs : List Value} {F : List Nat} (S : Sep F0 w0 L w) (p : Del L (aOwn d x cs F) L') (T : Sep F w A' w') : Sep F0 w0 (A' ++ L') w' := Sep.call [aOwn d x cs F] (S.pull p) (by simpa [fps, aOwn] using T)
theorem Sep.callRow {A' : List Asrt} {α : Type} {d : Ty α} {e : Nat} {xs : List α} {v : Value} {F : List Nat} (S : Sep F0 w0 L w) (p : Del L (aRow d e xs v F) L') (T : Sep F w A' w') : Sep F0 w0 (A' ++ L') w' := Sep.call [aRow d e xs v F] (S.pull p) (by simpa [fps, aRow] using T)
theorem Sep.frame (S : Sep [] w0 L w) : Fr w0 w := S.chg
theorem Sep.nodup (S : Sep F0 w0 L w) (h : a ∈ L) : a.fp.Nodup := by
  obtain ⟨A, B, rfl⟩ := List.append_of_mem h
  have := S.nd
  simp only [fps_append, fps] at this
  exact (List.nodup_append.1 (List.nodup_append.1 this).2.1).1
theorem Sep.low (S : Sep [] w0 L w) (h : a ∈ L) : ∀ g ∈ a.fp, w0.heap.size ≤ g := fun g hg => by
  rcases S.base a h g hg with h | h
  · cases h
  · exact h
theorem Sep.own {α : Type} {d : Ty α} {x : α} {cs : List Value} {F : List Nat} (S : Sep F0 w0 L w) (h : aOwn d x cs F ∈ L) : d.own w x cs F := S.ok _ h
theorem Sep.rdIn {α : Type} {d : Ty α} {x : α} {cs : List Value} {F : List Nat} (S : Sep F0 w0 L w) (h : aRd d x cs F ∈ L) : d.rd w x cs := (S.ok _ h).2 w fun _ _ => rfl
theorem Sep.ownNd {α : Type} {d : Ty α} {x : α} {cs : List Value} {F : List Nat} (S : Sep F0 w0 L w) (h : aOwn d x cs F ∈ L) : F.Nodup := S.nodup h
theorem Sep.both {α : Type} {d : Ty α} {x : α} {cs : List Value} {F : List Nat} (S : Sep F0 w0 L w) (h : aOwn d x cs F ∈ L) : d.own w x cs F ∧ F.Nodup := ⟨S.ok _ h, S.nodup h⟩
theorem Sep.rd {α : Type} {d : Ty α} {x : α} {cs : List Value} {F : List Nat} (S : Sep F0 w0 L w) (h : aOwn d x cs F ∈ L) : d.rd w x cs := d.own_rd (S.ok _ h)
theorem Sep.len {α : Type} {d : Ty α} {x : α} {cs : List Value} {F : List Nat} (S : Sep F0 w0 L w) (h : aOwn d x cs F ∈ L) : cs.length = d.sz := d.len (S.rd h)
theorem Sep.len' {α : Type} {d : Ty α} {x : α} {cs : List Value} {F : List Nat} (S : Sep F0 w0 L w) (h : aOwn d x cs F ∈ L) {n : Nat} (hn : d.sz = n) : cs.length = n := (S.len h).trans hn
theorem Sep.one {α : Type} {d : Ty α} {x : α} {cs : List Value} {F : List Nat} (S : Sep F0 w0 L w) (h : aOwn d x cs F ∈ L) : ∀ u ∈ cs, u.oneCell' = true := d.one (S.ok _ h)
theorem Sep.row {α : Type} {d : Ty α} {e : Nat} {xs : List α} {v : Value} {F : List Nat} (S : Sep F0 w0 L w) (h : aRow d e xs v F ∈ L) : d.orow e w v xs F := S.ok _ h
theorem Sep.rowOne {α : Type} {d : Ty α} {e : Nat} {xs : List α} {v : Value} {F : List Nat} (S : Sep F0 w0 L w) (h : aRow d e xs v F ∈ L) : v.oneCell' = true := (S.row h).one
theorem Sep.box {g t n : Nat} {cs : List Value} (S : Sep F0 w0 L w) (h : aBox g t n cs ∈ L) : Box w g t cs.toArray := (S.ok _ h).1
theorem Sep.cells {g t n : Nat} {cs : List Value} (S : Sep F0 w0 L w) (h : aBox g t n cs ∈ L) : ∀ j, w.cell? ⟨g, j, none⟩ = cs.toArray[j]? := (S.box h).cells
theorem Sep.retOwn {α : Type} {d : Ty α} {x : α} {cs : List Value} {F : List Nat} (S : Sep [] w0 L w) (h : aOwn d x cs F ∈ L) : RetOwn d x w0 (.returned (.agg cs.toArray)) w :=
  ⟨cs, F, rfl, S.own h, S.nodup h, S.low h, S.chg⟩
theorem Sep.retRow {α : Type} {d : Ty α} {e : Nat} {xs : List α} {v : Value} {F : List Nat} (S : Sep [] w0 L w) (h : aRow d e xs v F ∈ L) : RetRow d e xs w0 (.returned v) w :=
  ⟨v, F, rfl, S.row h, S.nodup h, S.low h, S.chg⟩
end
theorem one_nil : ∀ u ∈ ([] : List Value), u.oneCell' = true := fun u h => by cases h
theorem one_cons {v : Value} {l : List Value} (h : v.oneCell' = true) (hl : ∀ u ∈ l, u.oneCell' = true) : ∀ u ∈ v :: l, u.oneCell' = true := fun u hu => by
  rcases List.mem_cons.1 hu with rfl | hu
  · exact h
  · exact hl u hu

section
variable {P : Program} {ops : Array Oper} {rest : List Oper} {o : Oper} {a : Act} {Q : Exit → Act → World → Prop} {W w0 : World} {F0 : List Nat} {L L' : List Asrt} {K : Act → World → Prop}
theorem gate_box {t : TypeId} {x : Operand} (_h : o.op = .box t x) (h : wpList P ops Q (o :: rest) a W) : wpList P ops Q (o :: rest) a W := h
theorem gate_alloc {t : TypeId} (_h : o.op = .alloc t) (h : wpList P ops Q (o :: rest) a W) : wpList P ops Q (o :: rest) a W := h
theorem gate_load {t : TypeId} {x : Operand} (_h : o.op = .load t x) (h : wpList P ops Q (o :: rest) a W) : wpList P ops Q (o :: rest) a W := h
theorem gate_st {t : TypeId} {x y : Operand} (_h : o.op = .store t x y) (h : wpList P ops Q (o :: rest) a W) : wpList P ops Q (o :: rest) a W := h
/-- An operation's run, in a list; as one step of a region that draws; as one that may be taken first. -/
theorem wp_of_run {v : Value} {W' : World} (h : (execOp a.eval o).run P W = .ok (.value v) W') (hk : K (a.put o.dst v) W') : o.wp P a W K Q := by
  unfold Oper.wp
  rw [h]
  exact hk
theorem wp_of_skip {W' : World} (h : (execOp a.eval o).run P W = .ok .skip W') (hk : K (a.put o.dst undef) W') : o.wp P a W K Q := by
  unfold Oper.wp
  rw [h]
  exact hk
theorem wpList_of_skip {W' : World} (hw : Region.wanted o (yielded ops a.tmps) = true) (h : (execOp a.eval o).run P W = .ok .skip W') (hk : wpList P ops Q rest (a.put o.dst undef) W') : wpList P ops Q (o :: rest) a W :=
  wpList_step fun K hK => by
    rw [if_pos hw]
    exact wp_of_skip h (hK _ _ hk)
theorem step_of_skip {W' : World} (hw : Region.wanted o (yielded ops a.tmps) = true) (h : (execOp a.eval o).run P W = .ok .skip W') (hk : K (a.put o.dst undef) W') : if Region.wanted o (yielded ops a.tmps) = true then Oper.wp P o a W K Q else K (a.put o.dst undef) W := by
  rw [if_pos hw]
  exact wp_of_skip h hk
theorem wpList_of_run {v : Value} {W' : World} (hw : Region.wanted o (yielded ops a.tmps) = true) (h : (execOp a.eval o).run P W = .ok (.value v) W') (hk : wpList P ops Q rest (a.put o.dst v) W') : wpList P ops Q (o :: rest) a W :=
  wpList_step fun K hK => by
    rw [if_pos hw]
    exact wp_of_run h (hK _ _ hk)
theorem step_of_run {v : Value} {W' : World} (hw : Region.wanted o (yielded ops a.tmps) = true) (h : (execOp a.eval o).run P W = .ok (.value v) W') (hk : K (a.put o.dst v) W') : if Region.wanted o (yielded ops a.tmps) = true then Oper.wp P o a W K Q else K (a.put o.dst undef) W := by
  rw [if_pos hw]
  exact wp_of_run h hk
theorem yields_of_run {v : Value} {S : World → Prop} (hw : Region.wanted o (yielded ops a.tmps) = true) (h : ∀ w, S w → (execOp a.eval o).run P w = .ok (.value v) w) : YieldsIf P ops S o v a := .inl ⟨hw, h⟩

theorem run_sbox (S : Sep F0 w0 L W) (t : TypeId) (x : Operand) (ho : o.op = .box t x) (n : Nat) (cs : List Value) (hx : (a.eval x).cells = cs.toArray) (hn : cs.length = n) :
    ∃ g w1, W.heap.size ≤ g ∧ Sep F0 w0 (aBox g t n cs :: L) w1 ∧ (execOp a.eval o).run P W = .ok (.value (.pointer (some ⟨g, 0, none⟩))) w1 := by
  refine ⟨W.heap.size, W.alloc (.cells cs.toArray t), Nat.le_refl _, S.new (aBox W.heap.size t n cs) ⟨⟨heap_alloc_new W _⟩, hn⟩ (by simp [aBox]) (fun q hq => by rw [List.mem_singleton.1 hq]; exact Nat.le_refl _) ((Fr.refl W).alloc _), ?_⟩
  unfold execOp
  rw [ho]
  simp only [Instr.box, newVar, hx]
  go_simp
theorem run_salloc (S : Sep F0 w0 L W) (t : TypeId) (ho : o.op = .alloc t) (z : Value) (hz : (zeroValue t).run P W = .ok z W) (n : Nat) (cs : List Value) (hc : z.cells = cs.toArray) (hn : cs.length = n) :
    ∃ g w1, W.heap.size ≤ g ∧ Sep F0 w0 (aBox g t n cs :: L) w1 ∧ (execOp a.eval o).run P W = .ok (.value (.pointer (some ⟨g, 0, none⟩))) w1 := by
  refine ⟨W.heap.size, W.alloc (.cells cs.toArray t), Nat.le_refl _, S.new (aBox W.heap.size t n cs) ⟨⟨heap_alloc_new W _⟩, hn⟩ (by simp [aBox]) (fun q hq => by rw [List.mem_singleton.1 hq]; exact Nat.le_refl _) ((Fr.refl W).alloc _), ?_⟩
  unfold execOp
  rw [ho]
  simp only [Instr.alloc, Sem.run_bind, hz, Result.andThen_ok, newVar, hc]
  go_simp
theorem run_spart (S : Sep F0 w0 L W) (ty : TypeId) (x : Operand) (ho : o.op = .load ty x) {g j : Nat} (hx : a.eval x = .pointer (some ⟨g, j, none⟩)) {t n m : Nat} {cs : List Value} (hm : aBox g t n cs ∈ L) (d : TypeDesc)
    (hu : P.underlying ty = some d) (hd : (match d with | .struct _ | .array _ _ => true | _ => false) = true) (hi : (P.info? ty).map (·.size) = some m) (hj : j + m ≤ n) (vs : List Value) (hv : (cs.drop j).take m = vs) :
    (execOp a.eval o).run P W = .ok (.value (.agg vs.toArray)) W := by
  have hl := (S.ok _ hm).2
  have hr := run_loadVar_part (P := P) W g j m t ty cs.toArray d (S.box hm).blk hu hd hi (by simp; omega)
  have he : cs.toArray.extract j (j + m) = vs.toArray := by rw [← hv]; simp
  rw [he] at hr
  unfold execOp
  simp only [ho, hx, Instr.loadAt, Instr.sureAddr, Sem.run_bind, Sem.run_pure, Result.andThen_ok, hr]
theorem run_sload (S : Sep F0 w0 L W) (ty : TypeId) (x : Operand) (ho : o.op = .load ty x) {g : Nat} (hx : a.eval x = .pointer (some ⟨g, 0, none⟩)) {t n : Nat} {cs : List Value} (hm : aBox g t n cs ∈ L) (d : TypeDesc)
    (hu : P.underlying ty = some d) (hd : (match d with | .struct _ | .array _ _ => true | _ => false) = true) (hi : (P.info? ty).map (·.size) = some n) :
    (execOp a.eval o).run P W = .ok (.value (.agg cs.toArray)) W :=
  run_spart S ty x ho hx hm d hu hd hi (by omega) cs (by rw [List.drop_zero, ← (S.ok _ hm).2, List.take_length])
theorem run_sload1 (S : Sep F0 w0 L W) (ty : TypeId) (x : Operand) (ho : o.op = .load ty x) {g j : Nat} (hx : a.eval x = .pointer (some ⟨g, j, none⟩)) {t n : Nat} {cs : List Value} (hm : aBox g t n cs ∈ L) (d : TypeDesc)
    (hu : P.underlying ty = some d) (hd : (match d with | .struct _ | .array _ _ => true | _ => false) = false) (v : Value) (hv : cs[j]? = some v) :
    (execOp a.eval o).run P W = .ok (.value v) W := by
  have hc := S.cells hm j
  rw [List.getElem?_toArray, hv] at hc
  have hagg : (isAgg ty).run P W = .ok false W := by
    unfold isAgg
    rw [Sem.run_bind, run_underlying hu W]
    cases d <;> simp_all
  unfold execOp
  simp [ho, hx, Instr.loadAt, Instr.sureAddr, Sem.run_bind, Sem.run_pure, Result.andThen_ok, loadVar, hagg, run_load, hc]
theorem run_bstore {g t j n : Nat} {cs : Array Value} (k : Box W g t cs) (ty : TypeId) (x y : Operand) (ho : o.op = .store ty x y) (hx : a.eval x = .pointer (some ⟨g, j, none⟩)) (vs : Array Value) (hvs : (a.eval y).cells = vs) (hvn : vs.size = n)
    (hi : (P.info? ty).map (·.size) = some n) (hn : j + n ≤ cs.size) (h1 : ∀ u ∈ vs.toList, u.oneCell' = true) (cs' : Array Value) (hv : (cs.toList.take j ++ vs.toList ++ cs.toList.drop (j + n)).toArray = cs') :
    ∃ w1, Box w1 g t cs' ∧ Chg [g] W w1 ∧ (execOp a.eval o).run P W = .ok .skip w1 := by
  have hr := run_storeCells_at P g j t vs.toList 0 cs W k.blk (by rw [Array.length_toList]; omega) h1
  have hnl : vs.toList.length = n := by simp [hvn]
  rw [Nat.add_zero, hnl, hv] at hr
  obtain ⟨b1, b2⟩ := setRow_box k cs'
  refine ⟨_, b1, b2, ?_⟩
  cases hq : P.info? ty with
  | none => simp [hq] at hi
  | some i =>
    have hs : i.size = n := by simpa [hq] using hi
    unfold execOp
    simp [ho, hx, Instr.storeAt, Instr.sureAddr, storeVar, sizeOf, typeInfo, hq, hvs, hvn, hs, hr]
theorem run_sputp (S : Sep F0 w0 L W) (ty : TypeId) (x y : Operand) (ho : o.op = .store ty x y) {g j : Nat} (hx : a.eval x = .pointer (some ⟨g, j, none⟩)) (ls : List Value) (hy : (a.eval y).cells = ls.toArray) {t n m : Nat} {cs cs' : List Value}
    (hm : aBox g t n cs ∈ L) (hi : (P.info? ty).map (·.size) = some m) (hl : ls.length = m) (h1 : ∀ u ∈ ls, u.oneCell' = true) (hj : j + m ≤ n) (hv : cs.take j ++ (ls ++ cs.drop (j + m)) = cs') (hp : Put L (aBox g t n cs) (aBox g t n cs') L') :
    ∃ w1, Sep F0 w0 L' w1 ∧ (execOp a.eval o).run P W = .ok .skip w1 := by
  have hn := (S.ok _ hm).2
  obtain ⟨w1, k, c, hr⟩ := run_bstore (P := P) (o := o) (a := a) (S.box hm) ty x y ho hx ls.toArray hy (by simpa using hl) hi (by rw [List.size_toArray, hn]; exact hj) (by simpa using h1) cs'.toArray (by rw [← hv]; simp)
  refine ⟨w1, S.put hp rfl ⟨k, ?_⟩ c, hr⟩
  rw [← hv]
  simp
  omega
theorem run_sput (S : Sep F0 w0 L W) (ty : TypeId) (x y : Operand) (ho : o.op = .store ty x y) {g : Nat} (hx : a.eval x = .pointer (some ⟨g, 0, none⟩)) (ls : List Value) (hy : (a.eval y).cells = ls.toArray) {t n : Nat} {cs : List Value}
    (hp : Put L (aBox g t n cs) (aBox g t n ls) L') (hi : (P.info? ty).map (·.size) = some n) (hl : ls.length = n) (h1 : ∀ u ∈ ls, u.oneCell' = true) :
    ∃ w1, Sep F0 w0 L' w1 ∧ (execOp a.eval o).run P W = .ok .skip w1 := by
  have hm : aBox g t n cs ∈ L := by
    obtain ⟨A, B, rfl, rfl⟩ := hp.parts
    simp
  exact run_sputp S ty x y ho hx ls hy hm hi hl h1 (by omega) (by rw [List.take_zero, List.nil_append, List.drop_eq_nil_of_le (by rw [(S.ok _ hm).2]; omega), List.append_nil]) hp
theorem run_sput1 (S : Sep F0 w0 L W) (ty : TypeId) (x y : Operand) (ho : o.op = .store ty x y) {g j : Nat} (hx : a.eval x = .pointer (some ⟨g, j, none⟩)) (v : Value) (hy : (a.eval y).cells = [v].toArray) {t n : Nat} {cs cs' : List Value}
    (hm : aBox g t n cs ∈ L) (h1 : v.oneCell' = true) (hi : (P.info? ty).map (·.size) = some 1) (hj : j < n) (hv : cs.set j v = cs') (hp : Put L (aBox g t n cs) (aBox g t n cs') L') :
    ∃ w1, Sep F0 w0 L' w1 ∧ (execOp a.eval o).run P W = .ok .skip w1 :=
  run_sputp S ty x y ho hx [v] hy hm hi rfl (one_cons h1 one_nil) (by omega) (by rw [← hv, List.set_eq_take_append_cons_drop, if_pos (by rw [(S.ok _ hm).2]; exact hj)]; rfl) hp

theorem wpList_sbox (S : Sep F0 w0 L W) (hw : Region.wanted o (yielded ops a.tmps) = true) (t : TypeId) (x : Operand) (ho : o.op = .box t x) (n : Nat) (cs : List Value) (hx : (a.eval x).cells = cs.toArray) (hn : cs.length = n)
    (h : ∀ g w1, W.heap.size ≤ g → Sep F0 w0 (aBox g t n cs :: L) w1 → wpList P ops Q rest (a.put o.dst (.pointer (some ⟨g, 0, none⟩))) w1) : wpList P ops Q (o :: rest) a W := by
  obtain ⟨g, w1, hg, S1, hr⟩ := run_sbox (P := P) (o := o) (a := a) S t x ho n cs hx hn
  exact wpList_of_run hw hr (h g w1 hg S1)
theorem step_sbox (S : Sep F0 w0 L W) (hw : Region.wanted o (yielded ops a.tmps) = true) (t : TypeId) (x : Operand) (ho : o.op = .box t x) (n : Nat) (cs : List Value) (hx : (a.eval x).cells = cs.toArray) (hn : cs.length = n)
    (h : ∀ g w1, W.heap.size ≤ g → Sep F0 w0 (aBox g t n cs :: L) w1 → K (a.put o.dst (.pointer (some ⟨g, 0, none⟩))) w1) : if Region.wanted o (yielded ops a.tmps) = true then Oper.wp P o a W K Q else K (a.put o.dst undef) W := by
  obtain ⟨g, w1, hg, S1, hr⟩ := run_sbox (P := P) (o := o) (a := a) S t x ho n cs hx hn
  exact step_of_run hw hr (h g w1 hg S1)
theorem wpList_salloc (S : Sep F0 w0 L W) (hw : Region.wanted o (yielded ops a.tmps) = true) (t : TypeId) (ho : o.op = .alloc t) (z : Value) (hz : (zeroValue t).run P W = .ok z W) (n : Nat) (cs : List Value) (hc : z.cells = cs.toArray) (hn : cs.length = n)
    (h : ∀ g w1, W.heap.size ≤ g → Sep F0 w0 (aBox g t n cs :: L) w1 → wpList P ops Q rest (a.put o.dst (.pointer (some ⟨g, 0, none⟩))) w1) : wpList P ops Q (o :: rest) a W := by
  obtain ⟨g, w1, hg, S1, hr⟩ := run_salloc (P := P) (o := o) (a := a) S t ho z hz n cs hc hn
  exact wpList_of_run hw hr (h g w1 hg S1)
theorem step_salloc (S : Sep F0 w0 L W) (hw : Region.wanted o (yielded ops a.tmps) = true) (t : TypeId) (ho : o.op = .alloc t) (z : Value) (hz : (zeroValue t).run P W = .ok z W) (n : Nat) (cs : List Value) (hc : z.cells = cs.toArray) (hn : cs.length = n)
    (h : ∀ g w1, W.heap.size ≤ g → Sep F0 w0 (aBox g t n cs :: L) w1 → K (a.put o.dst (.pointer (some ⟨g, 0, none⟩))) w1) : if Region.wanted o (yielded ops a.tmps) = true then Oper.wp P o a W K Q else K (a.put o.dst undef) W := by
  obtain ⟨g, w1, hg, S1, hr⟩ := run_salloc (P := P) (o := o) (a := a) S t ho z hz n cs hc hn
  exact step_of_run hw hr (h g w1 hg S1)
theorem wpList_sload (S : Sep F0 w0 L W) (hw : Region.wanted o (yielded ops a.tmps) = true) (ty : TypeId) (x : Operand) (ho : o.op = .load ty x) {g : Nat} (hx : a.eval x = .pointer (some ⟨g, 0, none⟩)) {t n : Nat} {cs : List Value} (hm : aBox g t n cs ∈ L) (d : TypeDesc) (hu : P.underlying ty = some d) (hd : (match d with | .struct _ | .array _ _ => true | _ => false) = true) (hi : (P.info? ty).map (·.size) = some n)
    (h : wpList P ops Q rest (a.put o.dst (.agg cs.toArray)) W) : wpList P ops Q (o :: rest) a W := wpList_of_run hw (run_sload S ty x ho hx hm d hu hd hi) h
theorem step_sload (S : Sep F0 w0 L W) (hw : Region.wanted o (yielded ops a.tmps) = true) (ty : TypeId) (x : Operand) (ho : o.op = .load ty x) {g : Nat} (hx : a.eval x = .pointer (some ⟨g, 0, none⟩)) {t n : Nat} {cs : List Value} (hm : aBox g t n cs ∈ L) (d : TypeDesc) (hu : P.underlying ty = some d) (hd : (match d with | .struct _ | .array _ _ => true | _ => false) = true) (hi : (P.info? ty).map (·.size) = some n)
    (h : K (a.put o.dst (.agg cs.toArray)) W) : if Region.wanted o (yielded ops a.tmps) = true then Oper.wp P o a W K Q else K (a.put o.dst undef) W := step_of_run hw (run_sload S ty x ho hx hm d hu hd hi) h
theorem yields_sload (hw : Region.wanted o (yielded ops a.tmps) = true) (ty : TypeId) (x : Operand) (ho : o.op = .load ty x) {g : Nat} (hx : a.eval x = .pointer (some ⟨g, 0, none⟩)) {t n : Nat} {cs : List Value} (hm : aBox g t n cs ∈ L) (d : TypeDesc) (hu : P.underlying ty = some d) (hd : (match d with | .struct _ | .array _ _ => true | _ => false) = true) (hi : (P.info? ty).map (·.size) = some n) : YieldsIf P ops (Sep F0 w0 L) o (.agg cs.toArray) a := yields_of_run hw fun w S => run_sload S ty x ho hx hm d hu hd hi
theorem wpList_spart (S : Sep F0 w0 L W) (hw : Region.wanted o (yielded ops a.tmps) = true) (ty : TypeId) (x : Operand) (ho : o.op = .load ty x) {g j : Nat} (hx : a.eval x = .pointer (some ⟨g, j, none⟩)) {t n m : Nat} {cs : List Value} (hm : aBox g t n cs ∈ L) (d : TypeDesc) (hu : P.underlying ty = some d) (hd : (match d with | .struct _ | .array _ _ => true | _ => false) = true) (hi : (P.info? ty).map (·.size) = some m) (hj : j + m ≤ n) (vs : List Value) (hv : (cs.drop j).take m = vs)
    (h : wpList P ops Q rest (a.put o.dst (.agg vs.toArray)) W) : wpList P ops Q (o :: rest) a W := wpList_of_run hw (run_spart S ty x ho hx hm d hu hd hi hj vs hv) h
theorem step_spart (S : Sep F0 w0 L W) (hw : Region.wanted o (yielded ops a.tmps) = true) (ty : TypeId) (x : Operand) (ho : o.op = .load ty x) {g j : Nat} (hx : a.eval x = .pointer (some ⟨g, j, none⟩)) {t n m : Nat} {cs : List Value} (hm : aBox g t n cs ∈ L) (d : TypeDesc) (hu : P.underlying ty = some d) (hd : (match d with | .struct _ | .array _ _ => true | _ => false) = true) (hi : (P.info? ty).map (·.size) = some m) (hj : j + m ≤ n) (vs : List Value) (hv : (cs.drop j).take m = vs)
    (h : K (a.put o.dst (.agg vs.toArray)) W) : if Region.wanted o (yielded ops a.tmps) = true then Oper.wp P o a W K Q else K (a.put o.dst undef) W := step_of_run hw (run_spart S ty x ho hx hm d hu hd hi hj vs hv) h
theorem yields_spart (hw : Region.wanted o (yielded ops a.tmps) = true) (ty : TypeId) (x : Operand) (ho : o.op = .load ty x) {g j : Nat} (hx : a.eval x = .pointer (some ⟨g, j, none⟩)) {t n m : Nat} {cs : List Value} (hm : aBox g t n cs ∈ L) (d : TypeDesc) (hu : P.underlying ty = some d) (hd : (match d with | .struct _ | .array _ _ => true | _ => false) = true) (hi : (P.info? ty).map (·.size) = some m) (hj : j + m ≤ n) (vs : List Value) (hv : (cs.drop j).take m = vs) : YieldsIf P ops (Sep F0 w0 L) o (.agg vs.toArray) a := yields_of_run hw fun w S => run_spart S ty x ho hx hm d hu hd hi hj vs hv
theorem wpList_sload1 (S : Sep F0 w0 L W) (hw : Region.wanted o (yielded ops a.tmps) = true) (ty : TypeId) (x : Operand) (ho : o.op = .load ty x) {g j : Nat} (hx : a.eval x = .pointer (some ⟨g, j, none⟩)) {t n : Nat} {cs : List Value} (hm : aBox g t n cs ∈ L) (d : TypeDesc) (hu : P.underlying ty = some d) (hd : (match d with | .struct _ | .array _ _ => true | _ => false) = false) (v : Value) (hv : cs[j]? = some v)
    (h : wpList P ops Q rest (a.put o.dst v) W) : wpList P ops Q (o :: rest) a W := wpList_of_run hw (run_sload1 S ty x ho hx hm d hu hd v hv) h
theorem step_sload1 (S : Sep F0 w0 L W) (hw : Region.wanted o (yielded ops a.tmps) = true) (ty : TypeId) (x : Operand) (ho : o.op = .load ty x) {g j : Nat} (hx : a.eval x = .pointer (some ⟨g, j, none⟩)) {t n : Nat} {cs : List Value} (hm : aBox g t n cs ∈ L) (d : TypeDesc) (hu : P.underlying ty = some d) (hd : (match d with | .struct _ | .array _ _ => true | _ => false) = false) (v : Value) (hv : cs[j]? = some v)
    (h : K (a.put o.dst v) W) : if Region.wanted o (yielded ops a.tmps) = true then Oper.wp P o a W K Q else K (a.put o.dst undef) W := step_of_run hw (run_sload1 S ty x ho hx hm d hu hd v hv) h
theorem yields_sload1 (hw : Region.wanted o (yielded ops a.tmps) = true) (ty : TypeId) (x : Operand) (ho : o.op = .load ty x) {g j : Nat} (hx : a.eval x = .pointer (some ⟨g, j, none⟩)) {t n : Nat} {cs : List Value} (hm : aBox g t n cs ∈ L) (d : TypeDesc) (hu : P.underlying ty = some d) (hd : (match d with | .struct _ | .array _ _ => true | _ => false) = false) (v : Value) (hv : cs[j]? = some v) : YieldsIf P ops (Sep F0 w0 L) o v a := yields_of_run hw fun w S => run_sload1 S ty x ho hx hm d hu hd v hv
theorem wpList_sput (S : Sep F0 w0 L W) (hw : Region.wanted o (yielded ops a.tmps) = true) (ty : TypeId) (x y : Operand) (ho : o.op = .store ty x y) {g : Nat} (hx : a.eval x = .pointer (some ⟨g, 0, none⟩)) (ls : List Value) (hy : (a.eval y).cells = ls.toArray) {t n : Nat} {cs : List Value} (hp : Put L (aBox g t n cs) (aBox g t n ls) L') (hi : (P.info? ty).map (·.size) = some n) (hl : ls.length = n) (h1 : ∀ u ∈ ls, u.oneCell' = true)
    (h : ∀ w1, Sep F0 w0 L' w1 → wpList P ops Q rest (a.put o.dst undef) w1) : wpList P ops Q (o :: rest) a W := by
  obtain ⟨w1, S1, hr⟩ := run_sput (P := P) (o := o) (a := a) S ty x y ho hx ls hy hp hi hl h1
  exact wpList_of_skip hw hr (h w1 S1)
theorem step_sput (S : Sep F0 w0 L W) (hw : Region.wanted o (yielded ops a.tmps) = true) (ty : TypeId) (x y : Operand) (ho : o.op = .store ty x y) {g : Nat} (hx : a.eval x = .pointer (some ⟨g, 0, none⟩)) (ls : List Value) (hy : (a.eval y).cells = ls.toArray) {t n : Nat} {cs : List Value} (hp : Put L (aBox g t n cs) (aBox g t n ls) L') (hi : (P.info? ty).map (·.size) = some n) (hl : ls.length = n) (h1 : ∀ u ∈ ls, u.oneCell' = true)
    (h : ∀ w1, Sep F0 w0 L' w1 → K (a.put o.dst undef) w1) : if Region.wanted o (yielded ops a.tmps) = true then Oper.wp P o a W K Q else K (a.put o.dst undef) W := by
  obtain ⟨w1, S1, hr⟩ := run_sput (P := P) (o := o) (a := a) S ty x y ho hx ls hy hp hi hl h1
  exact step_of_skip hw hr (h w1 S1)
theorem wpList_sputp (S : Sep F0 w0 L W) (hw : Region.wanted o (yielded ops a.tmps) = true) (ty : TypeId) (x y : Operand) (ho : o.op = .store ty x y) {g j : Nat} (hx : a.eval x = .pointer (some ⟨g, j, none⟩)) (ls : List Value) (hy : (a.eval y).cells = ls.toArray) {t n m : Nat} {cs cs' : List Value} (hm : aBox g t n cs ∈ L) (hi : (P.info? ty).map (·.size) = some m) (hl : ls.length = m) (h1 : ∀ u ∈ ls, u.oneCell' = true) (hj : j + m ≤ n) (hv : cs.take j ++ (ls ++ cs.drop (j + m)) = cs') (hp : Put L (aBox g t n cs) (aBox g t n cs') L')
    (h : ∀ w1, Sep F0 w0 L' w1 → wpList P ops Q rest (a.put o.dst undef) w1) : wpList P ops Q (o :: rest) a W := by
  obtain ⟨w1, S1, hr⟩ := run_sputp (P := P) (o := o) (a := a) S ty x y ho hx ls hy hm hi hl h1 hj hv hp
  exact wpList_of_skip hw hr (h w1 S1)
theorem step_sputp (S : Sep F0 w0 L W) (hw : Region.wanted o (yielded ops a.tmps) = true) (ty : TypeId) (x y : Operand) (ho : o.op = .store ty x y) {g j : Nat} (hx : a.eval x = .pointer (some ⟨g, j, none⟩)) (ls : List Value) (hy : (a.eval y).cells = ls.toArray) {t n m : Nat} {cs cs' : List Value} (hm : aBox g t n cs ∈ L) (hi : (P.info? ty).map (·.size) = some m) (hl : ls.length = m) (h1 : ∀ u ∈ ls, u.oneCell' = true) (hj : j + m ≤ n) (hv : cs.take j ++ (ls ++ cs.drop (j + m)) = cs') (hp : Put L (aBox g t n cs) (aBox g t n cs') L')
    (h : ∀ w1, Sep F0 w0 L' w1 → K (a.put o.dst undef) w1) : if Region.wanted o (yielded ops a.tmps) = true then Oper.wp P o a W K Q else K (a.put o.dst undef) W := by
  obtain ⟨w1, S1, hr⟩ := run_sputp (P := P) (o := o) (a := a) S ty x y ho hx ls hy hm hi hl h1 hj hv hp
  exact step_of_skip hw hr (h w1 S1)
theorem wpList_sput1 (S : Sep F0 w0 L W) (hw : Region.wanted o (yielded ops a.tmps) = true) (ty : TypeId) (x y : Operand) (ho : o.op = .store ty x y) {g j : Nat} (hx : a.eval x = .pointer (some ⟨g, j, none⟩)) (v : Value) (hy : (a.eval y).cells = [v].toArray) {t n : Nat} {cs cs' : List Value} (hm : aBox g t n cs ∈ L) (h1 : v.oneCell' = true) (hi : (P.info? ty).map (·.size) = some 1) (hj : j < n) (hv : cs.set j v = cs') (hp : Put L (aBox g t n cs) (aBox g t n cs') L')
    (h : ∀ w1, Sep F0 w0 L' w1 → wpList P ops Q rest (a.put o.dst undef) w1) : wpList P ops Q (o :: rest) a W := by
  obtain ⟨w1, S1, hr⟩ := run_sput1 (P := P) (o := o) (a := a) S ty x y ho hx v hy hm h1 hi hj hv hp
  exact wpList_of_skip hw hr (h w1 S1)
theorem step_sput1 (S : Sep F0 w0 L W) (hw : Region.wanted o (yielded ops a.tmps) = true) (ty : TypeId) (x y : Operand) (ho : o.op = .store ty x y) {g j : Nat} (hx : a.eval x = .pointer (some ⟨g, j, none⟩)) (v : Value) (hy : (a.eval y).cells = [v].toArray) {t n : Nat} {cs cs' : List Value} (hm : aBox g t n cs ∈ L) (h1 : v.oneCell' = true) (hi : (P.info? ty).map (·.size) = some 1) (hj : j < n) (hv : cs.set j v = cs') (hp : Put L (aBox g t n cs) (aBox g t n cs') L')
    (h : ∀ w1, Sep F0 w0 L' w1 → K (a.put o.dst undef) w1) : if Region.wanted o (yielded ops a.tmps) = true then Oper.wp P o a W K Q else K (a.put o.dst undef) W := by
  obtain ⟨w1, S1, hr⟩ := run_sput1 (P := P) (o := o) (a := a) S ty x y ho hx v hy hm h1 hi hj hv hp
  exact step_of_skip hw hr (h w1 S1)
end

/-! ## Rows of one-cell elements -/
section
variable {P : Program} {ops : Array Oper} {rest : List Oper} {o : Oper} {a : Act} {Q : Exit → Act → World → Prop} {W w0 : World} {F0 : List Nat} {L L' : List Asrt} {K : Act → World → Prop} {α : Type} {d : Ty α}
/-- A kind whose data are one cell each. -/
structure OneCell {α : Type} (d : Ty α) (f : α → Value) : Prop where
  sz : d.sz = 1
  own : ∀ {w x cs F}, d.own w x cs F ↔ cs = [f x] ∧ F = []
  one : ∀ x, (f x).oneCell' = true
theorem one_tInt : OneCell tInt (fun x => Value.int .i64 x) := ⟨rfl, Iff.rfl, fun _ => rfl⟩
theorem one_tBool : OneCell tBool (fun x => Value.bool x) := ⟨rfl, Iff.rfl, fun _ => rfl⟩
theorem OneCell.flat {f : α → Value} (hf : OneCell d f) : d.flat := fun h => (hf.own.1 h).2
theorem orow1_at {f : α → Value} (hf : OneCell d f) {w : World} {g n cap e k : Nat} {xs : List α} {F : List Nat} (h : d.orow e w (.slice (some ⟨g, 0, none⟩) n cap) xs F) (hk : k < xs.length) :
    g ∈ F ∧ w.cell? ⟨g, k, none⟩ = some (f xs[k]) ∧ w.frozen? ⟨g, k, none⟩ = false ∧ ∀ x, d.orow e (w.setCell ⟨g, k, none⟩ (f x)) (.slice (some ⟨g, 0, none⟩) n cap) (xs.set k x) F := by
  obtain ⟨ck, Fk, h2, h3, h4, _, _, h5, h6, _, h7⟩ := h.at_ (h.nodup hf.flat) hk
  obtain ⟨rfl, rfl⟩ := hf.own.1 h3
  have hz := hf.sz
  refine ⟨h4, ?_, h6 k, fun x => ?_⟩
  · have := h5 0 (by simp)
    simpa [hz] using this
  · have := h7 0 (f x) x (fun W hW => hf.own.2 ⟨rfl, rfl⟩) (by omega)
    simpa [hz] using this
theorem run_srowld {f : α → Value} (hf : OneCell d f) (S : Sep F0 w0 L W) (ty : TypeId) (x : Operand) (ho : o.op = .load ty x) {g i : Nat} (hx : a.eval x = .pointer (some ⟨g, i, none⟩)) {e n cap : Nat} {xs : List α} {F : List Nat} (hm : aRow d e xs (.slice (some ⟨g, 0, none⟩) n cap) F ∈ L) (hi : i < xs.length) (t : TypeDesc)
    (hu : P.underlying ty = some t) (hd : (match t with | .struct _ | .array _ _ => true | _ => false) = false) : (execOp a.eval o).run P W = .ok (.value (f xs[i])) W := by
  have hc := (orow1_at hf (S.row hm) hi).2.1
  have hagg : (isAgg ty).run P W = .ok false W := by
    unfold isAgg
    rw [Sem.run_bind, run_underlying hu W]
    cases t <;> simp_all
  unfold execOp
  simp [ho, hx, Instr.loadAt, Instr.sureAddr, Sem.run_bind, Sem.run_pure, Result.andThen_ok, loadVar, hagg, run_load, hc]
theorem run_srowst {f : α → Value} (hf : OneCell d f) (S : Sep F0 w0 L W) (ty : TypeId) (x y : Operand) (ho : o.op = .store ty x y) {g i : Nat} (hx : a.eval x = .pointer (some ⟨g, i, none⟩)) (z : α) (hy : a.eval y = f z) (hs : (P.info? ty).map (·.size) = some 1) {e n cap : Nat} {xs ys : List α} {F : List Nat}
    (hm : aRow d e xs (.slice (some ⟨g, 0, none⟩) n cap) F ∈ L) (hi : i < xs.length) (hv : xs.set i z = ys) (hp : Put L (aRow d e xs (.slice (some ⟨g, 0, none⟩) n cap) F) (aRow d e ys (.slice (some ⟨g, 0, none⟩) n cap) F) L') :
    ∃ w1, Sep F0 w0 L' w1 ∧ (execOp a.eval o).run P W = .ok .skip w1 := by
  subst hv
  obtain ⟨hg, hc, hz, hset⟩ := orow1_at hf (S.row hm) hi
  refine ⟨W.setCell ⟨g, i, none⟩ (f z), S.putRow hp (hset z) ((Chg.refl F W).set (.inl hg) _), ?_⟩
  have h1 : (f z).cells = #[f z] := cells_of_one (hf.one z)
  have ha : (⟨g, i, none⟩ : Addr).add 0 = ⟨g, i, none⟩ := rfl
  have hst : (store ⟨g, i, none⟩ (f z)).run P W = .ok () (W.setCell ⟨g, i, none⟩ (f z)) := by
    rw [run_store P W _ (f z) _ (hf.one z)]
    simp [stored, hc, hz]
  cases hq : P.info? ty with
  | none => simp [hq] at hs
  | some info =>
    have hn : info.size = 1 := by simpa [hq] using hs
    unfold execOp
    simp [ho, hx, hy, Instr.storeAt, Instr.sureAddr, storeVar, sizeOf, typeInfo, hq, hn, h1, storeCells, ha, hst]
/-- A new row of ints. -/
theorem run_sints (S : Sep F0 w0 L W) (e : Nat) (xs : List Int) (n : Nat) (hxs : xs.length = n) (hl : n ≤ 2097152) (hr : (execOp a.eval o).run P W = .ok (.value (.slice (some ⟨W.heap.size, 0, none⟩) n n)) (W.alloc (.cells (xs.map (Value.int .i64)).toArray e))) :
    ∃ g w1, W.heap.size ≤ g ∧ Sep F0 w0 (aRow tInt e xs (.slice (some ⟨g, 0, none⟩) n n) [g] :: L) w1 ∧ (execOp a.eval o).run P W = .ok (.value (.slice (some ⟨g, 0, none⟩) n n)) w1 := by
  subst hxs
  exact ⟨_, _, Nat.le_refl _, S.new (aRow tInt e xs _ [W.heap.size]) (orow_ints_lit e W xs hl) (by simp [aRow]) (fun q hq => by rw [List.mem_singleton.1 hq]; exact Nat.le_refl _) ((Fr.refl W).alloc _), hr⟩

theorem wpList_srowld {f : α → Value} (hf : OneCell d f) (S : Sep F0 w0 L W) (hw : Region.wanted o (yielded ops a.tmps) = true) (ty : TypeId) (x : Operand) (ho : o.op = .load ty x) {g i : Nat} (hx : a.eval x = .pointer (some ⟨g, i, none⟩)) {e n cap : Nat} {xs : List α} {F : List Nat} (hm : aRow d e xs (.slice (some ⟨g, 0, none⟩) n cap) F ∈ L) (hi : i < xs.length) (t : TypeDesc) (hu : P.underlying ty = some t) (hd : (match t with | .struct _ | .array _ _ => true | _ => false) = false)
    (h : wpList P ops Q rest (a.put o.dst (f xs[i])) W) : wpList P ops Q (o :: rest) a W := wpList_of_run hw (run_srowld hf S ty x ho hx hm hi t hu hd) h
theorem step_srowld {f : α → Value} (hf : OneCell d f) (S : Sep F0 w0 L W) (hw : Region.wanted o (yielded ops a.tmps) = true) (ty : TypeId) (x : Operand) (ho : o.op = .load ty x) {g i : Nat} (hx : a.eval x = .pointer (some ⟨g, i, none⟩)) {e n cap : Nat} {xs : List α} {F : List Nat} (hm : aRow d e xs (.slice (some ⟨g, 0, none⟩) n cap) F ∈ L) (hi : i < xs.length) (t : TypeDesc) (hu : P.underlying ty = some t) (hd : (match t with | .struct _ | .array _ _ => true | _ => false) = false)
    (h : K (a.put o.dst (f xs[i])) W) : if Region.wanted o (yielded ops a.tmps) = true then Oper.wp P o a W K Q else K (a.put o.dst undef) W := step_of_run hw (run_srowld hf S ty x ho hx hm hi t hu hd) h
theorem yields_srowld {f : α → Value} (hf : OneCell d f) (hw : Region.wanted o (yielded ops a.tmps) = true) (ty : TypeId) (x : Operand) (ho : o.op = .load ty x) {g i : Nat} (hx : a.eval x = .pointer (some ⟨g, i, none⟩)) {e n cap : Nat} {xs : List α} {F : List Nat} (hm : aRow d e xs (.slice (some ⟨g, 0, none⟩) n cap) F ∈ L) (hi : i < xs.length) (t : TypeDesc) (hu : P.underlying ty = some t) (hd : (match t with | .struct _ | .array _ _ => true | _ => false) = false) : YieldsIf P ops (Sep F0 w0 L) o (f xs[i]) a := yields_of_run hw fun w S => run_srowld hf S ty x ho hx hm hi t hu hd
theorem wpList_srowst {f : α → Value} (hf : OneCell d f) (S : Sep F0 w0 L W) (hw : Region.wanted o (yielded ops a.tmps) = true) (ty : TypeId) (x y : Operand) (ho : o.op = .store ty x y) {g i : Nat} (hx : a.eval x = .pointer (some ⟨g, i, none⟩)) (z : α) (hy : a.eval y = f z) (hs : (P.info? ty).map (·.size) = some 1) {e n cap : Nat} {xs ys : List α} {F : List Nat} (hm : aRow d e xs (.slice (some ⟨g, 0, none⟩) n cap) F ∈ L) (hi : i < xs.length) (hv : xs.set i z = ys) (hp : Put L (aRow d e xs (.slice (some ⟨g, 0, none⟩) n cap) F) (aRow d e ys (.slice (some ⟨g, 0, none⟩) n cap) F) L')
    (h : ∀ w1, Sep F0 w0 L' w1 → wpList P ops Q rest (a.put o.dst undef) w1) : wpList P ops Q (o :: rest) a W := by
  obtain ⟨w1, S1, hr⟩ := run_srowst (P := P) (o := o) (a := a) hf S ty x y ho hx z hy hs hm hi hv hp
  exact wpList_of_skip hw hr (h w1 S1)
theorem step_srowst {f : α → Value} (hf : OneCell d f) (S : Sep F0 w0 L W) (hw : Region.wanted o (yielded ops a.tmps) = true) (ty : TypeId) (x y : Operand) (ho : o.op = .store ty x y) {g i : Nat} (hx : a.eval x = .pointer (some ⟨g, i, none⟩)) (z : α) (hy : a.eval y = f z) (hs : (P.info? ty).map (·.size) = some 1) {e n cap : Nat} {xs ys : List α} {F : List Nat} (hm : aRow d e xs (.slice (some ⟨g, 0, none⟩) n cap) F ∈ L) (hi : i < xs.length) (hv : xs.set i z = ys) (hp : Put L (aRow d e xs (.slice (some ⟨g, 0, none⟩) n cap) F) (aRow d e ys (.slice (some ⟨g, 0, none⟩) n cap) F) L')
    (h : ∀ w1, Sep F0 w0 L' w1 → K (a.put o.dst undef) w1) : if Region.wanted o (yielded ops a.tmps) = true then Oper.wp P o a W K Q else K (a.put o.dst undef) W := by
  obtain ⟨w1, S1, hr⟩ := run_srowst (P := P) (o := o) (a := a) hf S ty x y ho hx z hy hs hm hi hv hp
  exact step_of_skip hw hr (h w1 S1)
theorem wpList_sints  (S : Sep F0 w0 L W) (hw : Region.wanted o (yielded ops a.tmps) = true) (e : Nat) (xs : List Int) (n : Nat) (hxs : xs.length = n) (hl : n ≤ 2097152) (hr : (execOp a.eval o).run P W = .ok (.value (.slice (some ⟨W.heap.size, 0, none⟩) n n)) (W.alloc (.cells (xs.map (Value.int .i64)).toArray e)))
    (h : ∀ g w1, W.heap.size ≤ g → Sep F0 w0 (aRow tInt e xs (.slice (some ⟨g, 0, none⟩) n n) [g] :: L) w1 → wpList P ops Q rest (a.put o.dst (.slice (some ⟨g, 0, none⟩) n n)) w1) : wpList P ops Q (o :: rest) a W := by
  obtain ⟨g, w1, hg, S1, hr⟩ := run_sints (P := P) (o := o) (a := a) S e xs n hxs hl hr
  exact wpList_of_run hw hr (h g w1 hg S1)
theorem step_sints  (S : Sep F0 w0 L W) (hw : Region.wanted o (yielded ops a.tmps) = true) (e : Nat) (xs : List Int) (n : Nat) (hxs : xs.length = n) (hl : n ≤ 2097152) (hr : (execOp a.eval o).run P W = .ok (.value (.slice (some ⟨W.heap.size, 0, none⟩) n n)) (W.alloc (.cells (xs.map (Value.int .i64)).toArray e)))
    (h : ∀ g w1, W.heap.size ≤ g → Sep F0 w0 (aRow tInt e xs (.slice (some ⟨g, 0, none⟩) n n) [g] :: L) w1 → K (a.put o.dst (.slice (some ⟨g, 0, none⟩) n n)) w1) : if Region.wanted o (yielded ops a.tmps) = true then Oper.wp P o a W K Q else K (a.put o.dst undef) W := by
  obtain ⟨g, w1, hg, S1, hr⟩ := run_sints (P := P) (o := o) (a := a) S e xs n hxs hl hr
  exact step_of_run hw hr (h g w1 hg S1)
end

/-! ## What a call hands back out of a box -/
section
variable {P : Program} {fn : Func} {Post : Ending → World → Prop} {a : Act} {w w0 : World} {F0 : List Nat} {L : List Asrt} {p ty g t n : Nat} {cs : List Value} {d : TypeDesc}
theorem Sep.ret1 (S : Sep F0 w0 L w) (h : fn.results = #[.cell p ty]) (hp : a.tmps.getD p undef = .pointer (some ⟨g, 0, none⟩)) (hm : aBox g t n cs ∈ L)
    (hu : P.underlying ty = some d) (hd : (match d with | .struct _ | .array _ _ => true | _ => false) = true) (hi : (P.info? ty).map (·.size) = some n) (hf : a.defers = []) (post : Post (.returned (.agg cs.toArray)) w) : bodyPost P fn Post .ret a w := by
  have hn := (S.ok _ hm).2
  subst hn
  exact bodyPost_ret (results_cell_row h _ _ g _ cs.toArray _ _ hp (S.box hm).blk hu hd (by rw [hi]; simp)) hf post
theorem Sep.ret1_1 {u1 : Tmp} {x1 : Value} (S : Sep F0 w0 L w) (h : fn.results = #[.cell p ty, .tmp u1]) (hp : a.tmps.getD p undef = .pointer (some ⟨g, 0, none⟩)) (hm : aBox g t n cs ∈ L)
    (hu : P.underlying ty = some d) (hd : (match d with | .struct _ | .array _ _ => true | _ => false) = true) (hi : (P.info? ty).map (·.size) = some n) (hx1 : a.tmps.getD u1 undef = x1) (hf : a.defers = []) (post : Post (.returned (.tuple #[.agg cs.toArray, x1])) w) : bodyPost P fn Post .ret a w := by
  have hn := (S.ok _ hm).2
  subst hn
  refine bodyPost_ret (v := .tuple #[.agg cs.toArray, x1]) ?_ hf post
  have hl := run_loadVar_row (P := P) w g t ty cs.toArray (0, 0) d (S.box hm).blk hu hd (by rw [hi]; simp)
  simp only [Array.getD_eq_getD_getElem?] at hp hx1
  simp [results, h, hp, hx1, asAddr, hl, Sem.run_bind, Result.andThen]
theorem Sep.ret1_2 {u1 : Tmp} {x1 : Value} {u2 : Tmp} {x2 : Value} (S : Sep F0 w0 L w) (h : fn.results = #[.cell p ty, .tmp u1, .tmp u2]) (hp : a.tmps.getD p undef = .pointer (some ⟨g, 0, none⟩)) (hm : aBox g t n cs ∈ L)
    (hu : P.underlying ty = some d) (hd : (match d with | .struct _ | .array _ _ => true | _ => false) = true) (hi : (P.info? ty).map (·.size) = some n) (hx1 : a.tmps.getD u1 undef = x1) (hx2 : a.tmps.getD u2 undef = x2) (hf : a.defers = []) (post : Post (.returned (.tuple #[.agg cs.toArray, x1, x2])) w) : bodyPost P fn Post .ret a w := by
  have hn := (S.ok _ hm).2
  subst hn
  refine bodyPost_ret (v := .tuple #[.agg cs.toArray, x1, x2]) ?_ hf post
  have hl := run_loadVar_row (P := P) w g t ty cs.toArray (0, 0) d (S.box hm).blk hu hd (by rw [hi]; simp)
  simp only [Array.getD_eq_getD_getElem?] at hp hx1 hx2
  simp [results, h, hp, hx1, hx2, asAddr, hl, Sem.run_bind, Result.andThen]
theorem Sep.ret1_3 {u1 : Tmp} {x1 : Value} {u2 : Tmp} {x2 : Value} {u3 : Tmp} {x3 : Value} (S : Sep F0 w0 L w) (h : fn.results = #[.cell p ty, .tmp u1, .tmp u2, .tmp u3]) (hp : a.tmps.getD p undef = .pointer (some ⟨g, 0, none⟩)) (hm : aBox g t n cs ∈ L)
    (hu : P.underlying ty = some d) (hd : (match d with | .struct _ | .array _ _ => true | _ => false) = true) (hi : (P.info? ty).map (·.size) = some n) (hx1 : a.tmps.getD u1 undef = x1) (hx2 : a.tmps.getD u2 undef = x2) (hx3 : a.tmps.getD u3 undef = x3) (hf : a.defers = []) (post : Post (.returned (.tuple #[.agg cs.toArray, x1, x2, x3])) w) : bodyPost P fn Post .ret a w := by
  have hn := (S.ok _ hm).2
  subst hn
  refine bodyPost_ret (v := .tuple #[.agg cs.toArray, x1, x2, x3]) ?_ hf post
  have hl := run_loadVar_row (P := P) w g t ty cs.toArray (0, 0) d (S.box hm).blk hu hd (by rw [hi]; simp)
  simp only [Array.getD_eq_getD_getElem?] at hp hx1 hx2 hx3
  simp [results, h, hp, hx1, hx2, hx3, asAddr, hl, Sem.run_bind, Result.andThen]
theorem Sep.ret1_4 {u1 : Tmp} {x1 : Value} {u2 : Tmp} {x2 : Value} {u3 : Tmp} {x3 : Value} {u4 : Tmp} {x4 : Value} (S : Sep F0 w0 L w) (h : fn.results = #[.cell p ty, .tmp u1, .tmp u2, .tmp u3, .tmp u4]) (hp : a.tmps.getD p undef = .pointer (some ⟨g, 0, none⟩)) (hm : aBox g t n cs ∈ L)
    (hu : P.underlying ty = some d) (hd : (match d with | .struct _ | .array _ _ => true | _ => false) = true) (hi : (P.info? ty).map (·.size) = some n) (hx1 : a.tmps.getD u1 undef = x1) (hx2 : a.tmps.getD u2 undef = x2) (hx3 : a.tmps.getD u3 undef = x3) (hx4 : a.tmps.getD u4 undef = x4) (hf : a.defers = []) (post : Post (.returned (.tuple #[.agg cs.toArray, x1, x2, x3, x4])) w) : bodyPost P fn Post .ret a w := by
  have hn := (S.ok _ hm).2
  subst hn
  refine bodyPost_ret (v := .tuple #[.agg cs.toArray, x1, x2, x3, x4]) ?_ hf post
  have hl := run_loadVar_row (P := P) w g t ty cs.toArray (0, 0) d (S.box hm).blk hu hd (by rw [hi]; simp)
  simp only [Array.getD_eq_getD_getElem?] at hp hx1 hx2 hx3 hx4
  simp [results, h, hp, hx1, hx2, hx3, hx4, asAddr, hl, Sem.run_bind, Result.andThen]
end
theorem Sep.retOwn2 {α : Type} {d : Ty α} {x : α} {b : Bool} {cs : List Value} {F : List Nat} {w0 w : World} {L : List Asrt} (S : Sep [] w0 L w) (h : aOwn d x cs F ∈ L) : RetOwn2 d (x, b) w0 (.returned (.tuple #[.agg cs.toArray, .bool b])) w :=
  ⟨cs, F, rfl, S.own h, S.nodup h, S.low h, S.chg⟩
theorem Sep.retOwn3 {α : Type} {d : Ty α} {x : α} {n : Int} {b : Bool} {cs : List Value} {F : List Nat} {w0 w : World} {L : List Asrt} (S : Sep [] w0 L w) (h : aOwn d x cs F ∈ L) : RetOwn3 d x n b w0 (.returned (.tuple #[.agg cs.toArray, .int .i64 n, .bool b])) w :=
  ⟨cs, F, rfl, S.own h, S.nodup h, S.low h, S.chg⟩
/-! ## Short words -/
theorem memA {a : Asrt} {L : List Asrt} (h : a ∈ L := by (repeat (first | with_reducible exact List.mem_cons_self | with_reducible apply List.mem_cons_of_mem)) <;> fail) : a ∈ L := h
theorem putA {a a' : Asrt} {L L' : List Asrt} (h : Put L a a' L' := by (repeat (first | with_reducible exact Put.head _ _ _ | with_reducible apply Put.tail)) <;> fail) : Put L a a' L' := h
theorem delA {a : Asrt} {L L' : List Asrt} (h : Del L a L' := by (repeat (first | with_reducible exact Del.head _ _ | with_reducible apply Del.tail)) <;> fail) : Del L a L' := h
theorem subA {L L' : List Asrt} (h : L'.Sublist L := by (repeat (first | exact List.nil_sublist _ | exact List.Sublist.refl _ | with_reducible apply List.Sublist.cons_cons | apply List.Sublist.cons)) <;> fail) : L'.Sublist L := h
end Go.Proofs.Ytapdcgjccckjeaa
namespace Go.Proofs.Ytapdcgjccckjeaa
set_option maxRecDepth 100000
set_option linter.unusedVariables false
set_option linter.unusedSimpArgs false
open Go.RowKit
section
variable {P : Program} {ops : Array Oper} {rest : List Oper} {o : Oper} {a : Act} {Q : Exit → Act → World → Prop} {W w0 : World} {F0 : List Nat} {L L' : List Asrt} {K : Act → World → Prop} {α : Type} {d : Ty α}
theorem getElem_mid {A B : List α} {y : α} {k : Nat} (hA : A.length = k) : (A ++ y :: B)[k]'(by simp; omega) = y := by
  subst hA
  simp
theorem set_mid {A B : List α} {y z : α} {k : Nat} (hA : A.length = k) : (A ++ y :: B).set k z = A ++ z :: B := by
  subst hA
  simp
theorem run_sfield (S : Sep F0 w0 L W) (ty : TypeId) (x y : Operand) (ho : o.op = .store ty x y) {g k j q : Nat} (hx : a.eval x = .pointer (some ⟨g, q, none⟩)) (u : Value) (hy : (a.eval y).cells = [u].toArray) (h1 : u.oneCell' = true) (hs : (P.info? ty).map (·.size) = some 1) {e n cap : Nat} {A B : List α} {x0 x1 : α} {F : List Nat}
    (hm : aRow d e (A ++ x0 :: B) (.slice (some ⟨g, 0, none⟩) n cap) F ∈ L) (hA : A.length = k) (hq : q = k * d.sz + j) (hj : j < d.sz) (hset : ∀ (w : World) (cs : List Value) (G : List Nat), d.own w x0 cs G → d.own w x1 (cs.set j u) G)
    (hp : Put L (aRow d e (A ++ x0 :: B) (.slice (some ⟨g, 0, none⟩) n cap) F) (aRow d e (A ++ x1 :: B) (.slice (some ⟨g, 0, none⟩) n cap) F) L') :
    ∃ w1, Sep F0 w0 L' w1 ∧ (execOp a.eval o).run P W = .ok .skip w1 := by
  subst hq
  have hr := S.row hm
  have hk : k < (A ++ x0 :: B).length := by simp; omega
  obtain ⟨ck, Fk, h2, h3, h4, _, _, h5, h6, _, h7⟩ := hr.at_ (S.nodup hm) hk
  rw [getElem_mid hA] at h3
  have hc := h5 j (by omega)
  have hz := h6 (k * d.sz + j)
  have h8 := h7 j u x1 (by rw [getElem_mid hA]; exact fun w hw => hset w _ _ hw) hj
  rw [set_mid hA] at h8
  refine ⟨W.setCell ⟨g, k * d.sz + j, none⟩ u, S.putRow hp h8 ((Chg.refl F W).set (.inl h4) _), ?_⟩
  have ha : (⟨g, k * d.sz + j, none⟩ : Addr).add 0 = ⟨g, k * d.sz + j, none⟩ := rfl
  have hst : (store ⟨g, k * d.sz + j, none⟩ u).run P W = .ok () (W.setCell ⟨g, k * d.sz + j, none⟩ u) := by
    rw [run_store P W _ u _ h1]
    simp [stored, hc, hz]
  cases hq : P.info? ty with
  | none => simp [hq] at hs
  | some info =>
    have hn : info.size = 1 := by simpa [hq] using hs
    unfold execOp
    simp [ho, hx, hy, Instr.storeAt, Instr.sureAddr, storeVar, sizeOf, typeInfo, hq, hn, storeCells, ha, hst]
theorem wpList_sfield (S : Sep F0 w0 L W) (hw : Region.wanted o (yielded ops a.tmps) = true) (ty : TypeId) (x y : Operand) (ho : o.op = .store ty x y) {g k j q : Nat} (hx : a.eval x = .pointer (some ⟨g, q, none⟩)) (u : Value) (hy : (a.eval y).cells = [u].toArray) (h1 : u.oneCell' = true) (hs : (P.info? ty).map (·.size) = some 1) {e n cap : Nat} {A B : List α} {x0 x1 : α} {F : List Nat}
    (hm : aRow d e (A ++ x0 :: B) (.slice (some ⟨g, 0, none⟩) n cap) F ∈ L) (hA : A.length = k) (hq : q = k * d.sz + j) (hj : j < d.sz) (hset : ∀ (w : World) (cs : List Value) (G : List Nat), d.own w x0 cs G → d.own w x1 (cs.set j u) G)
    (hp : Put L (aRow d e (A ++ x0 :: B) (.slice (some ⟨g, 0, none⟩) n cap) F) (aRow d e (A ++ x1 :: B) (.slice (some ⟨g, 0, none⟩) n cap) F) L')
    (h : ∀ w1, Sep F0 w0 L' w1 → wpList P ops Q rest (a.put o.dst undef) w1) : wpList P ops Q (o :: rest) a W := by
  obtain ⟨w1, S1, hr⟩ := run_sfield (P := P) (o := o) (a := a) S ty x y ho hx u hy h1 hs hm hA hq hj hset hp
  exact wpList_of_skip hw hr (h w1 S1)
/-- A new row of equal elements (a make, an empty literal). -/
theorem run_smade (S : Sep F0 w0 L W) (d : Ty α) (e : Nat) (z : α) (cz : List Value) (n : Nat) (hz : ∀ w, d.own w z cz []) (hn : n ≤ 2097152) (cells : Array Value) (hce : madeCells cz.toArray (n * d.sz) = cells) (hr : (execOp a.eval o).run P W = .ok (.value (.slice (some ⟨W.heap.size, 0, none⟩) n n)) (W.alloc (.cells cells e))) :
    ∃ g w1, W.heap.size ≤ g ∧ Sep F0 w0 (aRow d e (List.replicate n z) (.slice (some ⟨g, 0, none⟩) n n) [g] :: L) w1 ∧ (execOp a.eval o).run P W = .ok (.value (.slice (some ⟨g, 0, none⟩) n n)) w1 :=
  ⟨_, _, Nat.le_refl _, S.new (aRow d e (List.replicate n z) _ [W.heap.size]) (hce ▸ orow_made d e W z cz n hz hn) (by simp [aRow]) (fun q hq => by rw [List.mem_singleton.1 hq]; exact Nat.le_refl _) ((Fr.refl W).alloc _), hr⟩
theorem wpList_smade (S : Sep F0 w0 L W) (hw : Region.wanted o (yielded ops a.tmps) = true) (d : Ty α) (e : Nat) (z : α) (cz : List Value) (n : Nat) (hz : ∀ w, d.own w z cz []) (hn : n ≤ 2097152) (cells : Array Value) (hce : madeCells cz.toArray (n * d.sz) = cells) (hr : (execOp a.eval o).run P W = .ok (.value (.slice (some ⟨W.heap.size, 0, none⟩) n n)) (W.alloc (.cells cells e)))
    (h : ∀ g w1, W.heap.size ≤ g → Sep F0 w0 (aRow d e (List.replicate n z) (.slice (some ⟨g, 0, none⟩) n n) [g] :: L) w1 → wpList P ops Q rest (a.put o.dst (.slice (some ⟨g, 0, none⟩) n n)) w1) : wpList P ops Q (o :: rest) a W := by
  obtain ⟨g, w1, hg, S1, hr⟩ := run_smade (P := P) (o := o) (a := a) S d e z cz n hz hn cells hce hr
  exact wpList_of_run hw hr (h g w1 hg S1)
theorem step_smade (S : Sep F0 w0 L W) (hw : Region.wanted o (yielded ops a.tmps) = true) (d : Ty α) (e : Nat) (z : α) (cz : List Value) (n : Nat) (hz : ∀ w, d.own w z cz []) (hn : n ≤ 2097152) (cells : Array Value) (hce : madeCells cz.toArray (n * d.sz) = cells) (hr : (execOp a.eval o).run P W = .ok (.value (.slice (some ⟨W.heap.size, 0, none⟩) n n)) (W.alloc (.cells cells e)))
    (h : ∀ g w1, W.heap.size ≤ g → Sep F0 w0 (aRow d e (List.replicate n z) (.slice (some ⟨g, 0, none⟩) n n) [g] :: L) w1 → K (a.put o.dst (.slice (some ⟨g, 0, none⟩) n n)) w1) : if Region.wanted o (yielded ops a.tmps) = true then Oper.wp P o a W K Q else K (a.put o.dst undef) W := by
  obtain ⟨g, w1, hg, S1, hr⟩ := run_smade (P := P) (o := o) (a := a) S d e z cz n hz hn cells hce hr
  exact step_of_run hw hr (h g w1 hg S1)
/-- A nil slice is owned by whoever holds it. -/
theorem Sep.addNil (S : Sep F0 w0 L W) (d : Ty α) (e : Nat) : Sep F0 w0 (aRow d e [] (.slice none 0 0) [] :: L) W :=
  S.new (aRow d e [] (.slice none 0 0) []) (Ty.orow.nil d e W) (by simp [aRow]) (fun q hq => by cases hq) (Fr.refl W)
/-- An int read out of a slice that reads as a list. -/
theorem wpList_rowint (hw : Region.wanted o (yielded ops a.tmps) = true) (ty : TypeId) (x : Operand) (ho : o.op = .load ty x) {ad : Addr} (hx : a.eval x = .pointer (some ad)) {v : Value} (hc : W.cell? ad = some v) (t : TypeDesc)
    (hu : P.underlying ty = some t) (hd : (match t with | .struct _ | .array _ _ => true | _ => false) = false) (h : wpList P ops Q rest (a.put o.dst v) W) : wpList P ops Q (o :: rest) a W := by
  have hagg : (isAgg ty).run P W = .ok false W := by
    unfold isAgg
    rw [Sem.run_bind, run_underlying hu W]
    cases t <;> simp_all
  refine wpList_of_run hw (v := v) ?_ h
  unfold execOp
  simp [ho, hx, Instr.loadAt, Instr.sureAddr, Sem.run_bind, Sem.run_pure, Result.andThen_ok, loadVar, hagg, run_load, hc]
theorem yields_cell {T : World → Prop} (hw : Region.wanted o (yielded ops a.tmps) = true) (ty : TypeId) (x : Operand) (ho : o.op = .load ty x) {ad : Addr} (hx : a.eval x = .pointer (some ad)) {v : Value} (hc : ∀ w, T w → w.cell? ad = some v) (d : TypeDesc)
    (hu : P.underlying ty = some d) (hd : (match d with | .struct _ | .array _ _ => true | _ => false) = false) : YieldsIf P ops T o v a := yields_of_run hw fun W hT => by
  have hagg : (isAgg ty).run P W = .ok false W := by
    unfold isAgg
    rw [Sem.run_bind, run_underlying hu W]
    cases d <;> simp_all
  have hc := hc W hT
  unfold execOp
  simp [ho, hx, Instr.loadAt, Instr.sureAddr, Sem.run_bind, Sem.run_pure, Result.andThen_ok, loadVar, hagg, run_load, hc]
end
end Go.Proofs.Ytapdcgjccckjeaa
