/- Words on worlds and on data in memory that the proofs of this seat share: what has turned from one world to the next; what a value reads as; what a call owns. -/
import Derived.Below
import Derived.Deep.Draws
import Derived.OwnWalk
import Derived.Laws.MakeOwn
import Derived.Laws.OwnMore
import Derived.Deep.OwnRows
import Derived.Tactics
import Derived.WalkKit
import Derived.KernelRfl
import Derived.RowKit3
import Derived.Deep.LoopGhost
import Derived.Deep.QuietTactic
import Derived.BigQuiet
import Derived.WideLaws
import Derived.Deep.DeepCutAuto
import Derived.Deep.CutBlock
import Derived.Deep.RegionHeld3
import Derived.RowKit
import Derived.Lib.Hide
namespace Go.Proofs.YtphojlkljlnfjaaDoor
set_option maxRecDepth 100000
set_option linter.unusedVariables false
set_option linter.unusedSimpArgs false
open Go.RowKit

/-! ## Worlds -/
/-- From w to w' no block of w has turned but those of F. -/
structure Chg (F : List Nat) (w w' : World) : Prop where
  os : w'.os = w.os
  tape : w'.tape = w.tape
  output : w'.output = w.output
  size : w.heap.size ≤ w'.heap.size
  block : ∀ k, k < w.heap.size → k ∉ F → w'.heap[k]? = w.heap[k]?
/-- Nothing that was there has turned. -/
def Fr (w w' : World) : Prop := Chg [] w w'

theorem Chg.refl (F : List Nat) (w : World) : Chg F w w := ⟨rfl, rfl, rfl, Nat.le_refl _, fun _ _ _ => rfl⟩
theorem Chg.trans {F G : List Nat} {a b c : World} (h : Chg F a b) (k : Chg G b c) (hG : ∀ g ∈ G, g ∈ F ∨ a.heap.size ≤ g) : Chg F a c :=
  ⟨k.os.trans h.os, k.tape.trans h.tape, k.output.trans h.output, Nat.le_trans h.size k.size, fun i hi hF =>
    (k.block i (Nat.lt_of_lt_of_le hi h.size) (fun hg => by rcases hG i hg with h1 | h1; exact hF h1; omega)).trans (h.block i hi hF)⟩
theorem Fr.refl (w : World) : Fr w w := Chg.refl _ w
theorem Fr.trans {a b c : World} (h : Fr a b) (k : Fr b c) : Fr a c := Chg.trans h k (fun _ h => by cases h)
theorem Chg.fr {F : List Nat} {a b c : World} (h : Chg F a b) (k : Fr b c) : Chg F a c := Chg.trans h k (fun _ h => by cases h)
theorem Fr.chg {F : List Nat} {a b : World} (h : Fr a b) : Chg F a b := ⟨h.os, h.tape, h.output, h.size, fun k hk _ => h.block k hk (by simp)⟩
theorem Chg.mono {F G : List Nat} {a b : World} (h : Chg F a b) (hFG : ∀ x ∈ F, x ∈ G) : Chg G a b := ⟨h.os, h.tape, h.output, h.size, fun k hk hG => h.block k hk (fun hF => hG (hFG k hF))⟩
theorem Fr.below {a b : World} (h : Fr a b) : Below a.heap.size a b := ⟨h.os, h.tape, h.output, h.size, fun k hk => h.block k hk (by simp)⟩
theorem Fr.ofBelow {a b : World} {B : Nat} (h : Below B a b) (hB : a.heap.size ≤ B) : Fr a b := ⟨h.os, h.tape, h.output, h.size, fun k hk _ => h.block k (by omega)⟩
theorem Chg.alloc {F : List Nat} {a b : World} (h : Chg F a b) (o : Obj) : Chg F a (b.alloc o) :=
  ⟨h.os, h.tape, h.output, by have := h.size; simp; omega, fun k hk hF => (Below.heap_alloc _ _ _ (by have := h.size; omega)).trans (h.block k hk hF)⟩
theorem Fr.alloc {a b : World} (h : Fr a b) (o : Obj) : Fr a (b.alloc o) := Chg.alloc h o
theorem Chg.drew {F : List Nat} {a b : World} (h : Chg F a b) : Chg F a b.drew := ⟨h.os, h.tape, h.output, h.size, h.block⟩
theorem Fr.drew {a b : World} (h : Fr a b) : Fr a b.drew := Chg.drew h
theorem Chg.drewN {F : List Nat} {a b : World} (h : Chg F a b) (n : Nat) : Chg F a (b.drewN n) := ⟨h.os, h.tape, h.output, h.size, h.block⟩
theorem Fr.drewN {a b : World} (h : Fr a b) (n : Nat) : Fr a (b.drewN n) := Chg.drewN h n
theorem Chg.set {F : List Nat} {a b : World} (h : Chg F a b) {p : Addr} (hp : p.block ∈ F ∨ a.heap.size ≤ p.block) (u : Value) : Chg F a (b.setCell p u) :=
  ⟨h.os, h.tape, h.output, by have := h.size; simp [World.setCell]; omega, fun k hk hF => (Below.heap_setCell _ _ _ _ (by rintro rfl; rcases hp with hp | hp; exact hF hp; omega)).trans (h.block k hk hF)⟩
theorem Fr.set {a b : World} (h : Fr a b) {p : Addr} (hp : a.heap.size ≤ p.block) (u : Value) : Fr a (b.setCell p u) := Chg.set h (.inr hp) u
theorem Chg.grown {F : List Nat} {a b c : World} {row : Option Nat} (h : Chg F a b) (hg : b.grownBy c row) (hr : ∀ k, row = some k → k ∈ F ∨ a.heap.size ≤ k) : Chg F a c :=
  ⟨hg.os.trans h.os, hg.tape.trans h.tape, hg.output.trans h.output, Nat.le_trans h.size hg.size, fun k hk hF =>
    (hg.block k (by have := h.size; omega) (fun e => by rcases hr k e.symm with h1 | h1; exact hF h1; omega)).trans (h.block k hk hF)⟩
theorem Fr.cell {a b : World} (h : Fr a b) {p : Addr} {v : Value} (hc : a.cell? p = some v) : b.cell? p = some v :=
  (World.cell?_of_block (w := a) (h.block p.block (World.block_lt_of_cell? a p hc) (by simp))).trans hc
theorem Fr.heap {a b : World} (h : Fr a b) {g : Nat} {o : Obj} (hc : a.heap[g]? = some o) : b.heap[g]? = some o :=
  (h.block g (Array.getElem?_eq_some_iff.1 hc).1 (by simp)).trans hc

theorem ret_int {k : IntKind} {a b : Int} (h : a = b) : Ending.returned (.int k a) = .returned (.int k b) := by rw [h]
theorem ret_bool {a b : Bool} (h : a = b) : Ending.returned (.bool a) = .returned (.bool b) := by rw [h]
/-- A call's end: it returns v, and nothing that was there has turned. -/
def Ret (v : Value) (w : World) : Ending → World → Prop := fun e w' => e = .returned v ∧ Fr w w'

theorem quiet_eq {P : Program} {f : FuncId} {args : Array Value} {w : World} {n : Nat} {v : Value}
    (h : Calls P f args (w.drewN n) fun e w' => e = .returned v ∧ w.drewN n = w') : Calls P f args (w.drewN n) fun e w'' => e = .returned v ∧ ∃ m, w'' = w.drewN m :=
  h.mono fun _ _ ⟨he, hm⟩ => ⟨he, n, hm.symm⟩

/-! ## A box: a block of the call's own that holds a struct -/
/-- Block g holds the cells cs. -/
structure Box (w : World) (g : Nat) (t : Nat) (cs : Array Value) : Prop where
  blk : w.heap[g]? = some (.cells cs t (0, 0))
theorem Box.lt {w : World} {g t : Nat} {cs : Array Value} (h : Box w g t cs) : g < w.heap.size := (Array.getElem?_eq_some_iff.1 h.blk).1
theorem Box.cells {w : World} {g t : Nat} {cs : Array Value} (h : Box w g t cs) : ∀ j, w.cell? ⟨g, j, none⟩ = cs[j]? := fun j => by simp [World.cell?, h.blk]
theorem Box.free {w : World} {g t : Nat} {cs : Array Value} (h : Box w g t cs) : ∀ j, w.frozen? ⟨g, j, none⟩ = false := fun j => by simp [World.frozen?, h.blk]
theorem Box.fr {w w' : World} {g t : Nat} {cs : Array Value} (h : Box w g t cs) (f : Fr w w') : Box w' g t cs := ⟨f.heap h.blk⟩
theorem Box.chg {F : List Nat} {w w' : World} {g t : Nat} {cs : Array Value} (h : Box w g t cs) (f : Chg F w w') (hg : g ∉ F) : Box w' g t cs := ⟨(f.block g h.lt hg).trans h.blk⟩

/-- A struct parameter is laid into a box: the world behind it has a name of its own. -/
theorem wpList_box {P : Program} {ops : Array Oper} {rest : List Oper} {o : Oper} {a : Act} {Q : Exit → Act → World → Prop} {W : World} (hg : o.guard = none) (t : TypeId) (x : Operand) (ho : o.op = .box t x) (cs : Array Value) (hx : (a.eval x).cells = cs)
    (h : ∀ g w1, W.heap.size ≤ g → Box w1 g t cs → Fr W w1 → wpList P ops Q rest (a.put o.dst (.pointer (some ⟨g, 0, none⟩))) w1) : wpList P ops Q (o :: rest) a W := by
  refine wpList_plain hg fun K hK => ?_
  have hk := hK _ _ (h W.heap.size (W.alloc (.cells cs t)) (Nat.le_refl _) ⟨heap_alloc_new W _⟩ ((Fr.refl W).alloc _))
  unfold Oper.wp execOp
  rw [ho]
  simp only [Instr.box, newVar, hx]
  go_simp
  exact hk

/-- What is of the call's own may turn. -/
theorem Fr.own {F : List Nat} {a b c : World} (h : Fr a b) (k : Chg F b c) (hF : ∀ g ∈ F, a.heap.size ≤ g) : Fr a c := Chg.trans h k (fun g hg => .inr (hF g hg))
theorem cells_of_one {v : Value} (h : v.oneCell' = true) : v.cells = #[v] := by cases v <;> first | rfl | cases h

section
variable {P : Program} {ops : Array Oper} {rest : List Oper} {o : Oper} {a : Act} {Q : Exit → Act → World → Prop} {W : World} {g t : Nat} {cs : Array Value}
/-- Is it this operation? -/
theorem gate_dst {N : Tmp} (_hN : o.dst = some N) (h : wpList P ops Q (o :: rest) a W) : wpList P ops Q (o :: rest) a W := h
theorem gate_store {t : TypeId} {p : Tmp} {v : Operand} (_ho : o.op = .store t (.tmp p) v) (h : wpList P ops Q (o :: rest) a W) : wpList P ops Q (o :: rest) a W := h
/-- A new variable, at its zero value. -/
theorem wpList_alloc (hg : o.guard = none) (t : TypeId) (ho : o.op = .alloc t) (z : Value) (hz : (zeroValue t).run P W = .ok z W) (cs : Array Value) (hc : z.cells = cs)
    (h : ∀ g w1, W.heap.size ≤ g → Box w1 g t cs → Fr W w1 → wpList P ops Q rest (a.put o.dst (.pointer (some ⟨g, 0, none⟩))) w1) : wpList P ops Q (o :: rest) a W := by
  refine wpList_plain hg fun K hK => ?_
  have hk := hK _ _ (h W.heap.size (W.alloc (.cells cs t)) (Nat.le_refl _) ⟨heap_alloc_new W _⟩ ((Fr.refl W).alloc _))
  unfold Oper.wp execOp
  rw [ho]
  simp only [Instr.alloc, Sem.run_bind, hz, Result.andThen_ok, newVar, hc]
  go_simp
  exact hk
theorem run_loadVar_part (w : World) (g j n t : Nat) (ty : TypeId) (cs : Array Value) (d : TypeDesc) (hg : w.heap[g]? = some (.cells cs t (0, 0)))
    (hu : P.underlying ty = some d) (hd : (match d with | .struct _ | .array _ _ => true | _ => false) = true) (hi : (P.info? ty).map (·.size) = some n) (hn : j + n ≤ cs.size) :
    (loadVar ty ⟨g, j, none⟩).run P w = .ok (.agg (cs.extract j (j + n))) w := by
  have hlen : (cs.extract j (j + n)).toList.length = n := by simp; omega
  have hl : (loadCells ⟨g, j, none⟩ (cs.extract j (j + n)).toList.length).run P w = .ok (cs.extract j (j + n)).toList.toArray w :=
    run_loadCells_list (P := P) w ⟨g, j, none⟩ _ (fun i v hv => by
      have hadd : (⟨g, j, none⟩ : Addr).add i = ⟨g, j + i, none⟩ := by unfold Addr.add; split <;> simp_all
      rw [hadd, cell_of_row w g (j + i) cs t (0, 0) hg]
      have hi' : i < n := by have := (List.getElem?_eq_some_iff.1 hv).1; omega
      rw [Array.getElem?_toList] at hv
      rw [← hv, Array.getElem?_extract]
      simp [hi']
      omega)
  rw [hlen] at hl
  cases hq : P.info? ty with
  | none => simp [hq] at hi
  | some i =>
    have hs : i.size = n := by simpa [hq] using hi
    have hagg : (isAgg ty).run P w = .ok true w := by
      unfold isAgg
      rw [Sem.run_bind, run_underlying hu w]
      cases d <;> simp_all
    simp only [Array.toArray_toList] at hl
    simp [loadVar, Sem.run_bind, hagg, sizeOf, typeInfo, hq, hs, hl]
/-- A struct, or a struct's part, loaded out of a box. -/
theorem wpList_bload (k : Box W g t cs) (hgd : o.guard = none) (ty : TypeId) (x : Operand) (ho : o.op = .load ty x) (j n : Nat) (hx : a.eval x = .pointer (some ⟨g, j, none⟩)) (d : TypeDesc)
    (hu : P.underlying ty = some d) (hd : (match d with | .struct _ | .array _ _ => true | _ => false) = true) (hi : (P.info? ty).map (·.size) = some n) (hn : j + n ≤ cs.size) (vs : Array Value) (hv : cs.extract j (j + n) = vs)
    (h : wpList P ops Q rest (a.put o.dst (.agg vs)) W) : wpList P ops Q (o :: rest) a W :=
  wpList_plain hgd fun K hK => by
    unfold Oper.wp execOp
    subst hv
    simp only [ho, hx, Instr.loadAt, Instr.sureAddr, Sem.run_bind, Sem.run_pure, Result.andThen_ok, run_loadVar_part W g j n t ty cs d k.blk hu hd hi hn]
    exact hK _ _ h
theorem setRow_box {w : World} (k : Box w g t cs) (cs' : Array Value) : Box (w.setRow g cs') g t cs' ∧ Chg [g] w (w.setRow g cs') := by
  have hlt := k.lt
  refine ⟨⟨setRow_heap w g cs cs' t _ k.blk⟩, ⟨rfl, rfl, rfl, by simp [World.setRow], fun i hi hg => ?_⟩⟩
  simp only [World.setRow, Array.getElem?_modify]
  rw [if_neg (by simp at hg; omega)]
/-- A store into a box. -/
theorem wpList_bstore (k : Box W g t cs) (hgd : o.guard = none) (ty : TypeId) (x y : Operand) (ho : o.op = .store ty x y) (j n : Nat) (hx : a.eval x = .pointer (some ⟨g, j, none⟩)) (v : Value) (hy : a.eval y = v) (vs : Array Value) (hvs : v.cells = vs) (hvn : vs.size = n)
    (hi : (P.info? ty).map (·.size) = some n) (hn : j + n ≤ cs.size) (h1 : ∀ u ∈ vs.toList, u.oneCell' = true) (cs' : Array Value) (hv : (cs.toList.take j ++ vs.toList ++ cs.toList.drop (j + n)).toArray = cs')
    (h : ∀ w1, Box w1 g t cs' → Chg [g] W w1 → wpList P ops Q rest (a.put o.dst undef) w1) : wpList P ops Q (o :: rest) a W :=
  wpList_plain hgd fun K hK => by
    have hr := run_storeCells_at P g j t vs.toList 0 cs W k.blk (by rw [Array.length_toList]; omega) h1
    have hnl : vs.toList.length = n := by simp [hvn]
    rw [Nat.add_zero, hnl, hv] at hr
    obtain ⟨b1, b2⟩ := setRow_box k cs'
    cases hq : P.info? ty with
    | none => simp [hq] at hi
    | some i =>
      have hs : i.size = n := by simpa [hq] using hi
      unfold Oper.wp execOp
      simp [ho, hx, hy, Instr.storeAt, Instr.sureAddr, storeVar, sizeOf, typeInfo, hq, hvs, hvn, hs, hr]
      exact hK _ _ (h _ b1 b2)
/-- A whole box, read and written. -/
theorem wpList_bget (k : Box W g t cs) (hgd : o.guard = none) (ty : TypeId) (x : Operand) (ho : o.op = .load ty x) (hx : a.eval x = .pointer (some ⟨g, 0, none⟩)) (d : TypeDesc)
    (hu : P.underlying ty = some d) (hd : (match d with | .struct _ | .array _ _ => true | _ => false) = true) {n : Nat} (hi : (P.info? ty).map (·.size) = some n) (hn : cs.size = n)
    (h : wpList P ops Q rest (a.put o.dst (.agg cs)) W) : wpList P ops Q (o :: rest) a W :=
  wpList_load_row hgd ty x ho g hx t cs (0, 0) d k.blk hu hd (by rw [hi, hn]) h
theorem wpList_bput (k : Box W g t cs) (hgd : o.guard = none) (ty : TypeId) (x y : Operand) (ho : o.op = .store ty x y) (hx : a.eval x = .pointer (some ⟨g, 0, none⟩)) (ls : List Value) (hy : a.eval y = .agg ls.toArray)
    {n : Nat} (hi : (P.info? ty).map (·.size) = some n) (hn : cs.size = n) (hl : ls.length = n) (h1 : ∀ u ∈ ls, u.oneCell' = true)
    (h : ∀ w1, Box w1 g t ls.toArray → Chg [g] W w1 → wpList P ops Q rest (a.put o.dst undef) w1) : wpList P ops Q (o :: rest) a W :=
  wpList_bstore k hgd ty x y ho 0 n hx (.agg ls.toArray) hy ls.toArray rfl (by simpa using hl) hi (by omega) (by simpa using h1) ls.toArray (by simp; omega) h
theorem size_toArray {ls : List Value} {n : Nat} (h : ls.length = n) : ls.toArray.size = n := by simpa using h
/-- A value of one cell, stored into a box. -/
theorem wpList_bstore1 (k : Box W g t cs) (hgd : o.guard = none) (ty : TypeId) (x y : Operand) (ho : o.op = .store ty x y) (j : Nat) (hx : a.eval x = .pointer (some ⟨g, j, none⟩)) (v : Value) (hy : a.eval y = v) (h1 : v.oneCell' = true)
    (hi : (P.info? ty).map (·.size) = some 1) (hn : j < cs.size) (cs' : Array Value) (hv : (cs.toList.take j ++ v :: cs.toList.drop (j + 1)).toArray = cs')
    (h : ∀ w1, Box w1 g t cs' → Chg [g] W w1 → wpList P ops Q rest (a.put o.dst undef) w1) : wpList P ops Q (o :: rest) a W :=
  wpList_bstore k hgd ty x y ho j 1 hx v hy #[v] (cells_of_one h1) rfl hi (by omega) (fun u hu => by simp at hu; rw [hu]; exact h1) cs' (by rw [← hv]; simp) h
end

/-! ## What a value reads as, and what a call owns -/
/-- A kind of data: how many cells; what they read as; what they read as where all that they lead to is a call's own: the blocks F. -/
structure Ty (α : Type) where
  sz : Nat
  rd : World → α → List Value → Prop
  own : World → α → List Value → List Nat → Prop
  len : ∀ {w x cs}, rd w x cs → cs.length = sz
  fr : ∀ {w w' : World} {x cs}, Fr w w' → rd w x cs → rd w' x cs
  own_rd : ∀ {w x cs F}, own w x cs F → rd w x cs
  own_lt : ∀ {w : World} {x cs F}, own w x cs F → ∀ g ∈ F, g < w.heap.size
  keep : ∀ {w w' : World} {x cs F}, own w x cs F → (∀ g ∈ F, w'.heap[g]? = w.heap[g]?) → own w' x cs F
  one : ∀ {w x cs F}, own w x cs F → ∀ u ∈ cs, u.oneCell' = true

/-- A slice that reads as a list. -/
def Ty.row {α : Type} (d : Ty α) (w : World) (v : Value) (xs : List α) : Prop :=
  ∃ A c, v = .slice A xs.length c ∧ (xs.length ≤ c ∧ (A = none → c = 0)) ∧ xs.length ≤ 9223372036854775807 ∧
    ∀ k (h : k < xs.length), ∃ ad cs, A = some ad ∧ d.rd w xs[k] cs ∧ ∀ j (hj : j < cs.length), w.cell? (ad.add (k * d.sz + j)) = some cs[j]
/-- Elements one behind the other, and the blocks that they lead to. -/
def Ty.elems {α : Type} (d : Ty α) (w : World) : List α → List Value → List Nat → Prop
  | [], cs, F => cs = [] ∧ F = []
  | x :: xs, cs, F => ∃ c1 c2 F1 F2, cs = c1 ++ c2 ∧ F = F1 ++ F2 ∧ d.own w x c1 F1 ∧ d.elems w xs c2 F2
/-- A slice of the call's own (elements of type e). -/
def Ty.orow {α : Type} (d : Ty α) (e : Nat) (w : World) (v : Value) (xs : List α) (F : List Nat) : Prop :=
  xs.length ≤ 2097152 ∧ ∃ inner F2, w.ownsRow 0 e d.sz v xs.length inner ∧ d.elems w xs inner F2 ∧ F = v.ownBlock.toList ++ F2

section
variable {α : Type} {d : Ty α} {w w' : World} {v : Value} {xs ys : List α} {x : α} {cs : List Value} {F G : List Nat} {e : Nat}
theorem Ty.row.fr (h : d.row w v xs) (f : Fr w w') : d.row w' v xs := by
  obtain ⟨A, c, e, h1, h2, h3⟩ := h
  refine ⟨A, c, e, h1, h2, fun k hk => ?_⟩
  obtain ⟨ad, cs, e1, hr, hc⟩ := h3 k hk
  exact ⟨ad, cs, e1, d.fr f hr, fun j hj => f.cell (hc j hj)⟩
theorem Ty.row.val (h : d.row w v xs) : ∃ A c, v = .slice A xs.length c := by
  obtain ⟨A, c, e, _⟩ := h
  exact ⟨A, c, e⟩
theorem Ty.row.nilc {A : Option Addr} {n c : Nat} (h : d.row w (.slice A n c) xs) (hA : A = none) : c = 0 := by
  obtain ⟨A', c', e, h1, _⟩ := h
  cases e
  exact h1.2 hA
theorem Ty.row.le (h : d.row w v xs) : xs.length ≤ 9223372036854775807 := by
  obtain ⟨_, _, _, _, h, _⟩ := h
  exact h
theorem Ty.row.nil (d : Ty α) (w : World) : d.row w (.slice none 0 0) [] := ⟨none, 0, rfl, ⟨Nat.le_refl _, fun _ => rfl⟩, by simp, fun k hk => by simp at hk⟩
theorem Ty.rd.fr (h : d.rd w x cs) (f : Fr w w') : d.rd w' x cs := d.fr f h
theorem Ty.own.rd (h : d.own w x cs F) : d.rd w x cs := d.own_rd h
theorem Ty.own.lt (h : d.own w x cs F) : ∀ g ∈ F, g < w.heap.size := d.own_lt h
theorem Ty.own.fr (h : d.own w x cs F) (f : Fr w w') : d.own w' x cs F := d.keep h (fun g hg => f.block g (d.own_lt h g hg) (by simp))
theorem Ty.own.chg (h : d.own w x cs F) (f : Chg G w w') (hd : ∀ g ∈ F, g ∉ G) : d.own w' x cs F := d.keep h (fun g hg => f.block g (d.own_lt h g hg) (hd g hg))
theorem Ty.own_fr (h : d.own w x cs F) (f : Fr w w') : d.own w' x cs F := d.keep h (fun g hg => f.block g (d.own_lt h g hg) (by simp))
theorem Ty.own_chg (h : d.own w x cs F) (f : Chg G w w') (hd : ∀ g ∈ F, g ∉ G) : d.own w' x cs F := d.keep h (fun g hg => f.block g (d.own_lt h g hg) (hd g hg))

theorem Ty.elems.len : ∀ {xs : List α} {cs : List Value} {F : List Nat}, d.elems w xs cs F → cs.length = xs.length * d.sz
  | [], _, _, h => by rw [h.1]; simp
  | x :: xs, _, _, h => by
    obtain ⟨c1, c2, F1, F2, rfl, rfl, h1, h2⟩ := h
    rw [List.length_append, d.len (d.own_rd h1), h2.len, List.length_cons, Nat.add_mul, Nat.one_mul, Nat.add_comm]
theorem Ty.elems.lt : ∀ {xs : List α} {cs : List Value} {F : List Nat}, d.elems w xs cs F → ∀ g ∈ F, g < w.heap.size
  | [], _, _, h, g, hg => by rw [h.2] at hg; cases hg
  | x :: xs, _, _, h, g, hg => by
    obtain ⟨c1, c2, F1, F2, rfl, rfl, h1, h2⟩ := h
    rcases List.mem_append.1 hg with hg | hg
    · exact d.own_lt h1 g hg
    · exact h2.lt g hg
theorem Ty.elems.keep : ∀ {xs : List α} {cs : List Value} {F : List Nat}, d.elems w xs cs F → (∀ g ∈ F, w'.heap[g]? = w.heap[g]?) → d.elems w' xs cs F
  | [], _, _, h, _ => h
  | x :: xs, _, _, h, hk => by
    obtain ⟨c1, c2, F1, F2, rfl, rfl, h1, h2⟩ := h
    exact ⟨c1, c2, F1, F2, rfl, rfl, d.keep h1 (fun g hg => hk g (List.mem_append_left _ hg)), h2.keep (fun g hg => hk g (List.mem_append_right _ hg))⟩
theorem Ty.elems.one : ∀ {xs : List α} {cs : List Value} {F : List Nat}, d.elems w xs cs F → ∀ u ∈ cs, u.oneCell' = true
  | [], _, _, h, u, hu => by rw [h.1] at hu; cases hu
  | x :: xs, _, _, h, u, hu => by
    obtain ⟨c1, c2, F1, F2, rfl, rfl, h1, h2⟩ := h
    rcases List.mem_append.1 hu with hu | hu
    · exact d.one h1 u hu
    · exact h2.one u hu
theorem Ty.elems.append : ∀ {xs ys : List α} {c1 c2 : List Value} {F1 F2 : List Nat}, d.elems w xs c1 F1 → d.elems w ys c2 F2 → d.elems w (xs ++ ys) (c1 ++ c2) (F1 ++ F2)
  | [], _, _, _, _, _, h, k => by rw [h.1, h.2]; simpa using k
  | x :: xs, _, _, _, _, _, h, k => by
    obtain ⟨c1, c2, F1, F2, rfl, rfl, h1, h2⟩ := h
    exact ⟨c1, c2 ++ _, F1, F2 ++ _, by simp, by simp, h1, h2.append k⟩
theorem Ty.elems.single (h : d.own w x cs F) : d.elems w [x] cs F := ⟨cs, [], F, [], by simp, by simp, h, rfl, rfl⟩
theorem Ty.elems.split : ∀ {xs ys : List α} {cs : List Value} {F : List Nat}, d.elems w (xs ++ ys) cs F → ∃ c1 c2 F1 F2, cs = c1 ++ c2 ∧ F = F1 ++ F2 ∧ d.elems w xs c1 F1 ∧ d.elems w ys c2 F2
  | [], _, cs, F, h => ⟨[], cs, [], F, rfl, rfl, ⟨rfl, rfl⟩, h⟩
  | x :: xs, ys, _, _, h => by
    obtain ⟨c1, c2, F1, F2, rfl, rfl, h1, h2⟩ := h
    obtain ⟨d1, d2, G1, G2, rfl, rfl, h3, h4⟩ := h2.split
    exact ⟨c1 ++ d1, d2, F1 ++ G1, G2, by simp, by simp, ⟨c1, d1, F1, G1, rfl, rfl, h1, h3⟩, h4⟩
/-- Element k: its cells, its blocks; and what stands on both sides. -/
theorem Ty.elems.at_ {k : Nat} (h : d.elems w xs cs F) (hk : k < xs.length) : ∃ c1 ck c2 F1 Fk F2, cs = c1 ++ (ck ++ c2) ∧ F = F1 ++ (Fk ++ F2) ∧ c1.length = k * d.sz ∧ ck.length = d.sz ∧ d.own w xs[k] ck Fk ∧
    d.elems w (xs.take k) c1 F1 ∧ d.elems w (xs.drop (k + 1)) c2 F2 := by
  have e1 : xs = xs.take k ++ (xs[k] :: xs.drop (k + 1)) := by rw [List.getElem_cons_drop, List.take_append_drop]
  rw [e1] at h
  obtain ⟨c1, c2, F1, F2, rfl, rfl, h1, d1, d2, G1, G2, rfl, rfl, h2, h3⟩ := h.split
  refine ⟨c1, d1, d2, F1, G1, G2, rfl, rfl, ?_, d.len (d.own_rd h2), h2, h1, h3⟩
  rw [h1.len, List.length_take, Nat.min_eq_left (Nat.le_of_lt hk)]
theorem Ty.elems.put {k : Nat} {c1 ck c2 : List Value} {F1 Fk F2 : List Nat} {y : α} (hk : k < xs.length) (h1 : d.elems w (xs.take k) c1 F1) (h2 : d.own w y ck Fk) (h3 : d.elems w (xs.drop (k + 1)) c2 F2) :
    d.elems w (xs.set k y) (c1 ++ (ck ++ c2)) (F1 ++ (Fk ++ F2)) := by
  have e1 : xs.set k y = xs.take k ++ (y :: xs.drop (k + 1)) := by rw [List.set_eq_take_append_cons_drop, if_pos hk]
  rw [e1]
  exact h1.append ⟨ck, c2, Fk, F2, rfl, rfl, h2, h3⟩

theorem own_keep' {e size n : Nat} {ys : List Value} (h : w.ownsRow 0 e size v n ys) (hm : ∀ k, v.ownBlock = some k → w'.heap[k]? = w.heap[k]?) : w'.ownsRow 0 e size v n ys := by
  obtain ⟨h1, h2⟩ := h
  refine ⟨h1, ?_⟩
  rcases h2 with h2 | ⟨g, cap, cur, rfl, hg, hh, r⟩
  · exact .inl h2
  · exact .inr ⟨g, cap, cur, rfl, hg, (hm g (by simp [Value.ownBlock])).trans hh, r⟩
theorem Ty.orow.le (h : d.orow e w v xs F) : xs.length ≤ 2097152 := h.1
theorem Ty.orow.lt (h : d.orow e w v xs F) : ∀ g ∈ F, g < w.heap.size := by
  obtain ⟨_, inner, F2, ho, he, rfl⟩ := h
  intro g hg
  rcases List.mem_append.1 hg with hg | hg
  · exact (ho.lt g (by simpa using hg)).2
  · exact he.lt g hg
theorem Ty.orow.keep (h : d.orow e w v xs F) (hk : ∀ g ∈ F, w'.heap[g]? = w.heap[g]?) : d.orow e w' v xs F := by
  obtain ⟨hl, inner, F2, ho, he, rfl⟩ := h
  exact ⟨hl, inner, F2, own_keep' ho (fun k hk' => hk k (by simp [hk'])), he.keep (fun g hg => hk g (List.mem_append_right _ hg)), rfl⟩
theorem Ty.orow.fr (h : d.orow e w v xs F) (f : Fr w w') : d.orow e w' v xs F := h.keep (fun g hg => f.block g (h.lt g hg) (by simp))
theorem Ty.orow.chg (h : d.orow e w v xs F) (f : Chg G w w') (hd : ∀ g ∈ F, g ∉ G) : d.orow e w' v xs F := h.keep (fun g hg => f.block g (h.lt g hg) (hd g hg))
theorem Ty.orow.nil (d : Ty α) (e : Nat) (w : World) : d.orow e w (.slice none 0 0) [] [] := ⟨by simp, [], [], World.ownsRow_nil w 0 e d.sz, ⟨rfl, rfl⟩, rfl⟩
theorem Ty.orow.one (h : d.orow e w v xs F) : v.oneCell' = true := by
  obtain ⟨_, inner, F2, ho, _⟩ := h
  rcases ho.2 with ⟨rfl, _⟩ | ⟨g, cap, cur, rfl, _⟩ <;> rfl
theorem addr_add (g j : Nat) : (⟨g, 0, none⟩ : Addr).add j = ⟨g, j, none⟩ := by unfold Addr.add; split <;> simp_all
/-- The shape of an owned slice that isn't empty. -/
theorem Ty.orow.shape (h : d.orow e w v xs F) (hn : 0 < xs.length) : ∃ g cap, v = .slice (some ⟨g, 0, none⟩) xs.length cap := by
  obtain ⟨_, inner, F2, ho, _⟩ := h
  rcases ho.2 with ⟨_, h0⟩ | ⟨g, cap, cur, rfl, _⟩
  · omega
  · exact ⟨g, cap, rfl⟩
/-- Element k of an owned slice. -/
theorem Ty.orow.at_ {g n cap k : Nat} (h : d.orow e w (.slice (some ⟨g, 0, none⟩) n cap) xs F) (hn : F.Nodup) (hk : k < xs.length) :
    ∃ ck Fk, ck.length = d.sz ∧ d.own w xs[k] ck Fk ∧ g ∈ F ∧ (∀ q ∈ Fk, q ∈ F ∧ q ≠ g) ∧ Fk.Nodup ∧ (∀ j (hj : j < ck.length), w.cell? ⟨g, k * d.sz + j, none⟩ = some ck[j]) ∧ (∀ j, w.frozen? ⟨g, j, none⟩ = false) ∧
      (∀ (w' : World) (y : α), Chg Fk w w' → d.own w' y ck Fk → d.orow e w' (.slice (some ⟨g, 0, none⟩) n cap) (xs.set k y) F) ∧
      (∀ (j : Nat) (u : Value) (y : α), (∀ W : World, d.own W xs[k] ck Fk → d.own W y (ck.set j u) Fk) → j < d.sz → d.orow e (w.setCell ⟨g, k * d.sz + j, none⟩ u) (.slice (some ⟨g, 0, none⟩) n cap) (xs.set k y) F) := by
  obtain ⟨hl, inner, F2, ho, he, rfl⟩ := h
  have hob : (Value.slice (some ⟨g, 0, none⟩) n cap).ownBlock = some g := rfl
  rw [hob] at hn ⊢
  simp only [Option.toList_some, List.singleton_append, List.nodup_cons] at hn
  obtain ⟨c1, ck, c2, F1, Fk, F3, rfl, rfl, h1, h2, h3, h4, h5⟩ := he.at_ hk
  have hck : ∀ j (hj : j < ck.length), (c1 ++ (ck ++ c2))[k * d.sz + j]? = some ck[j] := by
    intro j hj
    rw [List.getElem?_append_right (by omega), h1, Nat.add_sub_cancel_left, List.getElem?_append_left hj, List.getElem?_eq_getElem hj]
  have hFk : ∀ q ∈ Fk, q ∈ F1 ++ (Fk ++ F3) := fun q hq => List.mem_append_right _ (List.mem_append_left _ hq)
  have hnd := List.nodup_append.1 hn.2
  have hnd2 := List.nodup_append.1 hnd.2.1
  have hnl : n = xs.length := by
    rcases ho.2 with ⟨h', _⟩ | ⟨g', cap', cur, h', _⟩
    · cases h'
    · simp only [Value.slice.injEq] at h'; exact h'.2.1
  refine ⟨ck, Fk, h2, h3, by simp, fun q hq => ⟨by simp [hFk q hq], fun e => hn.1 (e ▸ hFk q hq)⟩, hnd2.1, fun j hj => ?_, fun j => ?_, fun W y f hy => ?_, fun j u y hy hj => ?_⟩
  · have := ho.cells (g := g) rfl (k * d.sz + j) _ (hck j hj)
    rwa [addr_add] at this
  · rcases ho.2 with ⟨h', _⟩ | ⟨g', cap', cur, h', _, hh, _⟩
    · cases h'
    · simp only [Value.slice.injEq, Option.some.injEq, Addr.mk.injEq] at h'
      obtain ⟨⟨rfl, _⟩, _⟩ := h'
      simp [World.frozen?, hh]
  · have hg : g ∉ Fk := fun hg => hn.1 (hFk g hg)
    refine ⟨by simpa using hl, c1 ++ (ck ++ c2), F1 ++ (Fk ++ F3), ?_, ?_, rfl⟩
    · rw [List.length_set]
      exact own_keep' ho (fun q hq => f.block q (ho.lt q hq).2 (by rw [hob] at hq; cases hq; exact hg))
    · refine Ty.elems.put hk (h4.keep fun q hq => f.block q (h4.lt q hq) (fun hq2 => hnd.2.2 q hq q (List.mem_append_left _ hq2) rfl)) hy (h5.keep fun q hq => f.block q (h5.lt q hq) (fun hq2 => hnd2.2.2 q hq2 q hq rfl))
  · have hs := ho
    subst hnl
    obtain ⟨hs1, _⟩ := World.ownsRow.stored hs (k * d.sz + j) u
    have hset : (c1 ++ (ck ++ c2)).set (k * d.sz + j) u = c1 ++ (ck.set j u ++ c2) := by
      rw [List.set_append_right _ _ (by omega), h1, Nat.add_sub_cancel_left, List.set_append_left _ _ (by omega)]
    rw [hset] at hs1
    have hb : ∀ q, q ≠ g → (w.setCell ⟨g, k * d.sz + j, none⟩ u).heap[q]? = w.heap[q]? := fun q hq => Below.heap_setCell _ _ _ _ hq
    have hq : ∀ q ∈ F1 ++ (Fk ++ F3), (w.setCell ⟨g, k * d.sz + j, none⟩ u).heap[q]? = w.heap[q]? := fun q hq => hb q (fun e => hn.1 (e ▸ hq))
    refine ⟨by simpa using hl, _, F1 ++ (Fk ++ F3), by rw [List.length_set]; exact hs1, ?_, rfl⟩
    exact Ty.elems.put hk (h4.keep fun q hq' => hq q (List.mem_append_left _ hq')) (hy _ (d.keep h3 fun q hq' => hq q (hFk q hq'))) (h5.keep fun q hq' => hq q (List.mem_append_right _ (List.mem_append_right _ hq')))
/-- What is owned reads. -/
theorem Ty.orow.row (h : d.orow e w v xs F) : d.row w v xs := by
  obtain ⟨hl, inner, F2, ho, he, rfl⟩ := h
  have hl2 : xs.length ≤ 9223372036854775807 := by omega
  rcases ho.2 with ⟨rfl, h0⟩ | ⟨g, cap, cur, rfl, _, hh, hc, _, hsz, htk⟩
  · obtain rfl : xs = [] := List.eq_nil_of_length_eq_zero h0
    exact Ty.row.nil d w
  · refine ⟨some ⟨g, 0, none⟩, cap, rfl, ⟨hc, fun h => by cases h⟩, hl2, fun k hk => ?_⟩
    obtain ⟨c1, ck, c2, F1, Fk, F3, rfl, rfl, h1, h2, h3, h4, h5⟩ := he.at_ hk
    refine ⟨_, ck, rfl, d.own_rd h3, fun j hj => ?_⟩
    refine ho.cells (g := g) rfl (k * d.sz + j) _ ?_
    rw [List.getElem?_append_right (by omega), h1, Nat.add_sub_cancel_left, List.getElem?_append_left hj, List.getElem?_eq_getElem hj]
/-- Appended to: what the library's law leaves. -/
theorem Ty.orow.mk {inner : List Value} {F2 : List Nat} (hl : xs.length ≤ 2097152) (ho : w.ownsRow 0 e d.sz v xs.length inner) (he : d.elems w xs inner F2) : d.orow e w v xs (v.ownBlock.toList ++ F2) := ⟨hl, inner, F2, ho, he, rfl⟩
end

/-! ## Numbers and bools -/
def tInt : Ty Int where
  sz := 1
  rd := fun _ x cs => cs = [.int .i64 x]
  own := fun _ x cs F => cs = [.int .i64 x] ∧ F = []
  len := fun h => by rw [h]; rfl
  fr := fun _ h => h
  own_rd := fun h => h.1
  own_lt := fun h g hg => by rw [h.2] at hg; cases hg
  keep := fun h _ => h
  one := fun h u hu => by rw [h.1] at hu; rw [List.mem_singleton.1 hu]; rfl
def tBool : Ty Bool where
  sz := 1
  rd := fun _ x cs => cs = [.bool x]
  own := fun _ x cs F => cs = [.bool x] ∧ F = []
  len := fun h => by rw [h]; rfl
  fr := fun _ h => h
  own_rd := fun h => h.1
  own_lt := fun h g hg => by rw [h.2] at hg; cases hg
  keep := fun h _ => h
  one := fun h u hu => by rw [h.1] at hu; rw [List.mem_singleton.1 hu]; rfl
theorem row_int_at {w : World} {A : Option Addr} {n c : Nat} {xs : List Int} (h : tInt.row w (.slice A n c) xs) (k : Nat) (hk : k < xs.length) : ∃ ad, A = some ad ∧ w.cell? (ad.add k) = some (.int .i64 xs[k]) := by
  obtain ⟨A', c', e, h1, h2, h3⟩ := h
  obtain ⟨ad, cs, e1, hr, hc⟩ := h3 k hk
  cases e
  subst e1
  have h5 : cs = [.int .i64 xs[k]] := hr
  subst h5
  refine ⟨ad, rfl, ?_⟩
  simpa [tInt] using hc 0 Nat.zero_lt_one
theorem row_bool_at {w : World} {A : Option Addr} {n c : Nat} {xs : List Bool} (h : tBool.row w (.slice A n c) xs) (k : Nat) (hk : k < xs.length) : ∃ ad, A = some ad ∧ w.cell? (ad.add k) = some (.bool xs[k]) := by
  obtain ⟨A', c', e, h1, h2, h3⟩ := h
  obtain ⟨ad, cs, e1, hr, hc⟩ := h3 k hk
  cases e
  subst e1
  have h5 : cs = [.bool xs[k]] := hr
  subst h5
  refine ⟨ad, rfl, ?_⟩
  simpa [tBool] using hc 0 Nat.zero_lt_one
/-- Kinds whose values lead nowhere. -/
def Ty.flat {α : Type} (d : Ty α) : Prop := ∀ {w : World} {x cs F}, d.own w x cs F → F = []
theorem tInt_flat : tInt.flat := fun h => h.2
theorem tBool_flat : tBool.flat := fun h => h.2
theorem Ty.elems.nil {α : Type} {d : Ty α} (hf : d.flat) {w : World} : ∀ {xs : List α} {cs : List Value} {F : List Nat}, d.elems w xs cs F → F = []
  | [], _, _, h => h.2
  | x :: xs, _, _, h => by
    obtain ⟨c1, c2, F1, F2, _, rfl, h1, h2⟩ := h
    rw [hf h1, h2.nil hf]; rfl
theorem Ty.orow.nodup {α : Type} {d : Ty α} (hf : d.flat) {w : World} {v : Value} {xs : List α} {F : List Nat} {e : Nat} (h : d.orow e w v xs F) : F.Nodup := by
  obtain ⟨_, inner, F2, _, he, rfl⟩ := h
  rw [he.nil hf]
  cases v.ownBlock <;> simp
/-- An int of an owned slice: its cell; a store into it. -/
theorem orow_int_at {w : World} {A : Option Addr} {n cap e k : Nat} {xs : List Int} {F : List Nat} (h : tInt.orow e w (.slice A n cap) xs F) (hk : k < xs.length) :
    ∃ g y, A = some ⟨g, 0, none⟩ ∧ g ∈ F ∧ w.cell? ⟨g, k, none⟩ = some (.int .i64 y) ∧ w.frozen? ⟨g, k, none⟩ = false ∧
      ∀ x, tInt.orow e (w.setCell ⟨g, k, none⟩ (.int .i64 x)) (.slice A n cap) (xs.set k x) F := by
  obtain ⟨g, cap', e'⟩ := h.shape (by omega)
  simp only [Value.slice.injEq] at e'
  obtain ⟨rfl, rfl, rfl⟩ := e'
  obtain ⟨ck, Fk, h2, h3, h4, _, _, h5, h6, _, h7⟩ := h.at_ (h.nodup tInt_flat) hk
  obtain ⟨rfl, rfl⟩ := h3
  refine ⟨g, xs[k], rfl, h4, ?_, h6 k, fun x => ?_⟩
  · simpa [tInt] using h5 0 Nat.zero_lt_one
  · have := h7 0 (.int .i64 x) x (fun W hW => by obtain ⟨_, _⟩ := hW; exact ⟨rfl, rfl⟩) Nat.zero_lt_one
    simpa [tInt] using this
theorem orow_bool_at {w : World} {A : Option Addr} {n cap e k : Nat} {xs : List Bool} {F : List Nat} (h : tBool.orow e w (.slice A n cap) xs F) (hk : k < xs.length) :
    ∃ g y, A = some ⟨g, 0, none⟩ ∧ g ∈ F ∧ w.cell? ⟨g, k, none⟩ = some (.bool y) ∧ w.frozen? ⟨g, k, none⟩ = false ∧
      ∀ x, tBool.orow e (w.setCell ⟨g, k, none⟩ (.bool x)) (.slice A n cap) (xs.set k x) F := by
  obtain ⟨g, cap', e'⟩ := h.shape (by omega)
  simp only [Value.slice.injEq] at e'
  obtain ⟨rfl, rfl, rfl⟩ := e'
  obtain ⟨ck, Fk, h2, h3, h4, _, _, h5, h6, _, h7⟩ := h.at_ (h.nodup tBool_flat) hk
  obtain ⟨rfl, rfl⟩ := h3
  refine ⟨g, xs[k], rfl, h4, ?_, h6 k, fun x => ?_⟩
  · simpa [tBool] using h5 0 Nat.zero_lt_one
  · have := h7 0 (.bool x) x (fun W hW => by obtain ⟨_, _⟩ := hW; exact ⟨rfl, rfl⟩) Nat.zero_lt_one
    simpa [tBool] using this

/-- Equal elements, each leading nowhere. -/
theorem Ty.elems.rep {α : Type} {d : Ty α} {w : World} {z : α} {cz : List Value} (h : d.own w z cz []) : ∀ n, d.elems w (List.replicate n z) (List.replicate n cz).flatten []
  | 0 => ⟨rfl, rfl⟩
  | n + 1 => by
    rw [List.replicate_succ, List.replicate_succ]
    exact ⟨cz, _, [], [], rfl, rfl, h, Ty.elems.rep h n⟩
/-- What 'make' of n elements lays. -/
theorem madeCells_eq (cz : List Value) (n : Nat) : (madeCells cz.toArray (n * cz.length)).toList = (List.replicate n cz).flatten := by
  rcases Nat.eq_zero_or_pos cz.length with h0 | h0
  · have : cz = [] := List.eq_nil_of_length_eq_zero h0
    subst this
    simp [madeCells]
  · apply List.ext_getElem?
    intro i
    by_cases hi : i < n * cz.length
    · have hd : i / cz.length < n := (Nat.div_lt_iff_lt_mul h0).2 hi
      have hm : i % cz.length < cz.length := Nat.mod_lt _ h0
      have e1 : i = (i / cz.length) * cz.length + i % cz.length := by rw [Nat.mul_comm]; exact (Nat.div_add_mod i cz.length).symm
      have key : ∀ (n q r : Nat), q < n → r < cz.length → (List.replicate n cz).flatten[q * cz.length + r]? = cz[r]? := by
        intro n
        induction n with
        | zero => intro q r hq; omega
        | succ n ih =>
          intro q r hq hr
          rw [List.replicate_succ, List.flatten_cons]
          cases q with
          | zero => rw [Nat.zero_mul, Nat.zero_add, List.getElem?_append_left hr]
          | succ q =>
            rw [List.getElem?_append_right (by rw [Nat.succ_mul]; omega), show (q + 1) * cz.length + r - cz.length = q * cz.length + r from by rw [Nat.succ_mul]; omega]
            exact ih q r (by omega) hr
      have h2 := key n (i / cz.length) (i % cz.length) hd hm
      rw [← e1] at h2
      rw [h2, List.getElem?_eq_getElem hm]
      simp [madeCells, hi, hm]
    · rw [List.getElem?_eq_none (by simp [madeCells]; omega), List.getElem?_eq_none (by simp; omega)]
theorem orow_made {α : Type} (d : Ty α) (e : Nat) (W : World) (z : α) (cz : List Value) (n : Nat) (hz : ∀ w, d.own w z cz []) (hn : n ≤ 2097152) :
    d.orow e (W.alloc (.cells (madeCells cz.toArray (n * d.sz)) e)) (.slice (some ⟨W.heap.size, 0, none⟩) n n) (List.replicate n z) [W.heap.size] := by
  have hl : cz.length = d.sz := d.len (d.own_rd (hz W))
  have h := World.ownsRow_lit (base := 0) (e := e) (size := d.sz) W (madeCells cz.toArray (n * d.sz)) n (Nat.zero_le _) (by simp only [maxLen]; omega) (by simp [size_madeCells])
  refine ⟨by simpa using hn, _, [], by rw [List.length_replicate]; exact h, ?_, rfl⟩
  have h2 := Ty.elems.rep (hz (W.alloc (.cells (madeCells cz.toArray (n * d.sz)) e))) n
  rw [← hl, madeCells_eq]
  rwa [← hl] at h2

/-- An operation that makes a slice (a literal, a make): the world behind it has a name of its own. -/
theorem wpList_newrow {α : Type} {P : Program} {ops : Array Oper} {rest : List Oper} {o : Oper} {a : Act} {Q : Exit → Act → World → Prop} {W : World} (d : Ty α) (e : Nat) (xs : List α) (n : Nat) (hxs : xs.length = n) (hg : o.guard = none) {v : Value} {w1 : World} {F : List Nat}
    (hrun : (execOp a.eval o).run P W = .ok (.value v) w1) (ho : d.orow e w1 v xs F) (hn : F.Nodup) (hb : ∀ g ∈ F, W.heap.size ≤ g) (hf : Fr W w1)
    (h : ∀ A c w1 F, d.orow e w1 (.slice A n c) xs F → F.Nodup → (∀ g ∈ F, W.heap.size ≤ g) → Fr W w1 → wpList P ops Q rest (a.put o.dst (.slice A n c)) w1) : wpList P ops Q (o :: rest) a W := by
  refine wpList_plain hg fun K hK => ?_
  obtain ⟨A, c, rfl⟩ := ho.row.val
  subst hxs
  have hk := hK _ _ (h A c w1 F ho hn hb hf)
  unfold Oper.wp
  rw [hrun]
  exact hk
/-- Three new blocks. -/
theorem three_new (w : World) (A B C : Obj) : (((w.alloc A).alloc B).alloc C).heap[w.heap.size]? = some A ∧ (((w.alloc A).alloc B).alloc C).heap[w.heap.size + 1]? = some B ∧ (((w.alloc A).alloc B).alloc C).heap[w.heap.size + 1 + 1]? = some C := by
  have h1 := heap_alloc_new w A
  have h2 := heap_alloc_new (w.alloc A) B
  have h3 := heap_alloc_new ((w.alloc A).alloc B) C
  simp only [World.size_alloc] at h2 h3
  refine ⟨?_, ?_, h3⟩
  · rw [Below.heap_alloc _ _ _ (by simp; omega), Below.heap_alloc _ _ _ (by simp), h1]
  · rw [Below.heap_alloc _ _ _ (by simp), h2]
/-- An owned slice of ints, by its block. -/
theorem orow_of_heap {e g : Nat} {w : World} {xs : List Int} {n : Nat} (hx : xs.length = n) (hl : n ≤ 2097152) (h : w.heap[g]? = some (.cells (xs.map (Value.int .i64)).toArray e (0, 0))) : tInt.orow e w (.slice (some ⟨g, 0, none⟩) n n) xs [g] := by
  subst hx
  have he : ∀ ys : List Int, tInt.elems w ys (ys.map (Value.int .i64)) [] := by
    intro ys
    induction ys with
    | nil => exact ⟨rfl, rfl⟩
    | cons y ys ih => exact ⟨[.int .i64 y], _, [], [], rfl, rfl, ⟨rfl, rfl⟩, ih⟩
  exact ⟨hl, _, [], ⟨by simp [tInt], .inr ⟨g, xs.length, _, rfl, Nat.zero_le _, h, Nat.le_refl _, by simp only [maxLen]; omega, by simp [tInt], by simp [tInt]; rw [← List.length_map (f := Value.int .i64), List.take_length]⟩⟩, he xs, rfl⟩
theorem orow_ints_lit (e : Nat) (W : World) (xs : List Int) (hl : xs.length ≤ 2097152) :
    tInt.orow e (W.alloc (.cells (xs.map (Value.int .i64)).toArray e)) (.slice (some ⟨W.heap.size, 0, none⟩) xs.length xs.length) xs [W.heap.size] := by
  have h := World.ownsRow_lit (base := 0) (e := e) (size := 1) W (xs.map (Value.int .i64)).toArray xs.length (Nat.zero_le _) (by simp only [maxLen]; omega) (by simp)
  refine ⟨hl, _, [], h, ?_, rfl⟩
  rw [List.toList_toArray]
  generalize (W.alloc _) = w1
  clear h hl
  induction xs with
  | nil => exact ⟨rfl, rfl⟩
  | cons x xs ih => exact ⟨[.int .i64 x], _, [], [], rfl, rfl, ⟨rfl, rfl⟩, ih⟩

theorem nodup_lt {F G : List Nat} {m n : Nat} (h1 : F.Nodup) (h2 : G.Nodup) (h3 : ∀ a ∈ F, a < m) (hmn : m ≤ n) (h4 : ∀ b ∈ G, n ≤ b) : (F ++ G).Nodup :=
  List.nodup_append.2 ⟨h1, h2, fun a ha b hb e => by have := h3 a ha; have := h4 b hb; omega⟩
theorem lo_append {F G : List Nat} {m n : Nat} (h1 : ∀ a ∈ F, n ≤ a) (h2 : ∀ a ∈ G, m ≤ a) (hm : n ≤ m) : ∀ a ∈ F ++ G, n ≤ a := fun a ha => by
  rcases List.mem_append.1 ha with ha | ha
  · exact h1 a ha
  · exact Nat.le_trans hm (h2 a ha)
theorem lo_mono {F : List Nat} {m n : Nat} (h : ∀ a ∈ F, m ≤ a) (hm : n ≤ m) : ∀ a ∈ F, n ≤ a := fun a ha => Nat.le_trans hm (h a ha)

/-! ## What calls hand back -/
/-- Behind a marking call: the answer, what the marked value now reads as, and what else has turned. -/
def RetMk {α : Type} (d : Ty α) (r : Int) (x : α) (cs : List Value) (F : List Nat) (w : World) : Ending → World → Prop := fun e w' => e = .returned (.int .i64 r) ∧ d.own w' x cs F ∧ Chg F w w'
def RetMkRow {α : Type} (d : Ty α) (e : Nat) (r : Int) (xs : List α) (v : Value) (F : List Nat) (w : World) : Ending → World → Prop := fun en w' => en = .returned (.int .i64 r) ∧ d.orow e w' v xs F ∧ Chg F w w'
/-- A call that hands back a new slice. -/
def RetRow {α : Type} (d : Ty α) (e : Nat) (xs : List α) (w : World) : Ending → World → Prop := fun en w' => ∃ v F, en = .returned v ∧ d.orow e w' v xs F ∧ F.Nodup ∧ (∀ g ∈ F, w.heap.size ≤ g) ∧ Fr w w'
/-- A call that hands back a new struct. -/
def RetOwn {α : Type} (d : Ty α) (x : α) (w : World) : Ending → World → Prop := fun en w' => ∃ cs F, en = .returned (.agg cs.toArray) ∧ d.own w' x cs F ∧ F.Nodup ∧ (∀ g ∈ F, w.heap.size ≤ g) ∧ Fr w w'
/-- A call that hands back a new struct, and a Bool. -/
def RetOwn2 {α : Type} (d : Ty α) (x : α × Bool) (w : World) : Ending → World → Prop := fun en w' => ∃ cs F, en = .returned (.tuple #[.agg cs.toArray, .bool x.2]) ∧ d.own w' x.1 cs F ∧ F.Nodup ∧ (∀ g ∈ F, w.heap.size ≤ g) ∧ Fr w w'
/-- A call that hands back a new struct, an int and a Bool. -/
def RetOwn3 {α : Type} (d : Ty α) (x : α) (n : Int) (b : Bool) (w : World) : Ending → World → Prop := fun en w' => ∃ cs F, en = .returned (.tuple #[.agg cs.toArray, .int .i64 n, .bool b]) ∧ d.own w' x cs F ∧ F.Nodup ∧ (∀ g ∈ F, w.heap.size ≤ g) ∧ Fr w w'
/-- What is left of a size. -/
def szr (left : Int) (n : Nat) : Int := if (n : Int) ≤ left then left - n else -1
end Go.Proofs.YtphojlkljlnfjaaDoor
