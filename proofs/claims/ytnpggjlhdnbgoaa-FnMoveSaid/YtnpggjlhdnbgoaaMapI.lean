/- Maps from 1, 2, .. to ints, in blocks of a call's own. -/
import Derived.Test.YtnpggjlhdnbgoaaBase
import Derived.Carry
namespace Go.Proofs.Ytnpggjlhdnbgoaa
set_option linter.unusedVariables false
set_option linter.unusedSimpArgs false
open Go.RowKit Go.Instr

def ents : Nat → List Int → List MapEntry
  | _, [] => []
  | i, x :: xs => ⟨.int .i64 ((i + 1 : Nat) : Int), .int .i64 x, i⟩ :: ents (i + 1) xs
/-- Block g is the map from 1, 2, .. to the ints of xs. -/
def MapI (w : World) (g : Nat) (xs : List Int) : Prop := ∃ c, w.heap[g]? = some (.map (ents 0 xs).toArray c)
theorem MapI.fr {w w' : World} {g : Nat} {xs : List Int} (h : MapI w g xs) (f : Fr w w') : MapI w' g xs := by obtain ⟨c, hc⟩ := h; exact ⟨c, f.heap hc⟩
theorem MapI.lt {w : World} {g : Nat} {xs : List Int} (h : MapI w g xs) : g < w.heap.size := by obtain ⟨c, hc⟩ := h; exact (Array.getElem?_eq_some_iff.1 hc).1
theorem MapI.chg {F : List Nat} {w w' : World} {g : Nat} {xs : List Int} (h : MapI w g xs) (f : Chg F w w') (hg : g ∉ F) : MapI w' g xs := by
  have hl := h.lt
  obtain ⟨c, hc⟩ := h
  exact ⟨c, (f.block g hl hg).trans hc⟩
theorem ents_length : ∀ (i : Nat) (xs : List Int), (ents i xs).length = xs.length
  | _, [] => rfl
  | i, x :: xs => by simp [ents, ents_length]
theorem findNow_hit : ∀ (xs : List Int) (i j k : Nat) (hk : k < xs.length), findNow (.int .i64) (.int .i64 ((i + k + 1 : Nat) : Int)) (ents i xs) j = some (some (j + k, .int .i64 xs[k]))
  | x :: xs, i, j, 0, _ => by simp [ents, findNow, sameNow]
  | x :: xs, i, j, k + 1, hk => by
    have h1 : ¬ ((i : Int) + ((k : Int) + 1) + 1 = (i : Int) + 1) := by omega
    have ih := findNow_hit xs (i + 1) (j + 1) k (by simpa using hk)
    have e1 : ((i + 1 + k + 1 : Nat) : Int) = ((i + (k + 1) + 1 : Nat) : Int) := by omega
    rw [e1] at ih
    simp only [ents, findNow, sameNow, if_true]
    have h2 : (((i + (k + 1) + 1 : Nat) : Int) == ((i + 1 : Nat) : Int)) = false := by
      rw [beq_eq_false_iff_ne]; omega
    rw [h2]
    simp only []
    rw [ih]
    simp only [List.getElem_cons_succ, Option.some.injEq, Prod.mk.injEq, and_true]
    omega
theorem findNow_miss : ∀ (xs : List Int) (i j m : Nat), i + xs.length ≤ m → findNow (.int .i64) (.int .i64 ((m + 1 : Nat) : Int)) (ents i xs) j = some none
  | [], i, j, m, _ => rfl
  | x :: xs, i, j, m, hm => by
    simp only [List.length_cons] at hm
    have h2 : (((m + 1 : Nat) : Int) == ((i + 1 : Nat) : Int)) = false := by
      rw [beq_eq_false_iff_ne]; omega
    simp only [ents, findNow, sameNow, if_true, h2]
    exact findNow_miss xs (i + 1) (j + 1) m (by omega)
theorem ents_set : ∀ (xs : List Int) (i k : Nat) (y : Int) (hk : k < xs.length), (ents i xs).modify k (fun e => { e with key := .int .i64 ((i + k + 1 : Nat) : Int), val := .int .i64 y }) = ents i (xs.set k y)
  | x :: xs, i, 0, y, _ => by simp [ents]
  | x :: xs, i, k + 1, y, hk => by
    simp only [ents, List.modify_succ_cons, List.set_cons_succ, List.cons.injEq, true_and]
    rw [← ents_set xs (i + 1) k y (by simpa using hk)]
    congr 1
    funext e
    congr 3
    omega
theorem ents_key : ∀ (xs : List Int) (i k : Nat) (hk : k < xs.length), ((ents i xs)[k]?).map (·.key) = some (.int .i64 ((i + k + 1 : Nat) : Int))
  | x :: xs, i, 0, _ => by simp [ents]
  | x :: xs, i, k + 1, hk => by
    simp only [ents, List.getElem?_cons_succ]
    rw [ents_key xs (i + 1) k (by simpa using hk)]
    congr 3
    omega
theorem ents_push : ∀ (xs : List Int) (i : Nat) (y : Int), ents i xs ++ [⟨.int .i64 ((i + xs.length + 1 : Nat) : Int), .int .i64 y, i + xs.length⟩] = ents i (xs ++ [y])
  | [], i, y => by simp [ents]
  | x :: xs, i, y => by
    simp only [ents, List.cons_append, List.length_cons]
    rw [← ents_push xs (i + 1) y]
    rw [show i + (xs.length + 1) + 1 = i + 1 + xs.length + 1 by omega, show i + (xs.length + 1) = i + 1 + xs.length by omega]
section
variable {P : Program} {w : World} {g t kt et : Nat} {xs : List Int}
theorem run_checkKey (e : Bool) (n : Nat) (hk : P.underlying kt = some (.int .i64)) (v : Int) : (checkKey e (n + 1) kt (.int .i64 v)).run P w = .ok () w := by
  unfold checkKey
  rw [Sem.run_bind, run_underlying hk w]
  rfl
theorem run_find (hk : P.underlying kt = some (.int .i64)) (v : Int) (es : List MapEntry) (r : Option (Nat × Value)) (h : findNow (.int .i64) (.int .i64 v) es 0 = some r) : (findKey kt (.int .i64 v) es).run P w = .ok r w := by
  unfold findKey
  rw [Sem.run_bind, run_underlying hk w, Result.andThen_ok, h]
  rfl
theorem run_look (ht : P.underlying t = some (.map kt et)) (hk : P.underlying kt = some (.int .i64)) (h : MapI w g xs) (k : Nat) (hkl : k < xs.length) (v : Int) (hv : v = ((k + 1 : Nat) : Int)) :
    (Instr.lookup t (.map (some g)) (.int .i64 v) false).run P w = .ok (.int .i64 xs[k]) w := by
  obtain ⟨c, hb⟩ := h
  have hf := findNow_hit xs 0 0 k hkl
  rw [Nat.zero_add, ← hv] at hf
  have hg : (getObj g).run P w = .ok (.map (ents 0 xs).toArray c) w := by simp [getObj, Sem.run, hb]
  unfold Instr.lookup
  rw [Sem.run_bind, run_underlying ht w, Result.andThen_ok]
  simp only [Sem.run_bind, hg, Result.andThen_ok, Sem.run_pure, run_checkKey _ _ hk, run_find hk _ _ _ hf]
  rfl
theorem setMap_chg (w : World) (g : Nat) (o : Obj) (hg : g < w.heap.size) : Chg [g] w { w with heap := w.heap.set! g o } := ⟨rfl, rfl, rfl, by simp, fun k hk hF => by
  have : g ≠ k := fun e => hF (by simp [e])
  simp [Array.set!_eq_setIfInBounds, Array.getElem?_setIfInBounds_ne this]⟩
theorem run_mapset (ht : P.underlying t = some (.map kt et)) (hk : P.underlying kt = some (.int .i64)) (h : MapI w g xs) (k : Nat) (hkl : k < xs.length) (v y : Int) (hv : v = ((k + 1 : Nat) : Int)) :
    ∃ w', (Instr.mapUpdate t (.map (some g)) (.int .i64 v) (.int .i64 y)).run P w = .ok () w' ∧ MapI w' g (xs.set k y) ∧ Chg [g] w w' := by
  have hl := h.lt
  obtain ⟨c, hb⟩ := h
  have hf := findNow_hit xs 0 0 k hkl
  have hs := ents_set xs 0 k y hkl
  have hkey := ents_key xs 0 k hkl
  simp only [Nat.zero_add] at hf hs hkey
  rw [← hv] at hf hs hkey
  have hg : (getObj g).run P w = .ok (.map (ents 0 xs).toArray c) w := by simp [getObj, Sem.run, hb]
  refine ⟨_, ?_, ?_, setMap_chg w g (.map (ents 0 (xs.set k y)).toArray c) hl⟩
  · unfold Instr.mapUpdate
    rw [Sem.run_bind, run_underlying ht w, Result.andThen_ok]
    simp only [Sem.run_bind, hg, Result.andThen_ok, run_checkKey _ _ hk, run_find hk _ _ _ hf]
    simp [keyThatStays, sameBits, hkey, setObj, Sem.run, hs, hb]
  · exact ⟨c, by simp [hl]⟩
theorem run_mappush (ht : P.underlying t = some (.map kt et)) (hk : P.underlying kt = some (.int .i64)) (c : Nat) (hb : w.heap[g]? = some (.map (ents 0 xs).toArray c)) (hc : c = xs.length) (v y : Int) (hv : v = ((xs.length + 1 : Nat) : Int)) :
    ∃ w', (Instr.mapUpdate t (.map (some g)) (.int .i64 v) (.int .i64 y)).run P w = .ok () w' ∧ w'.heap[g]? = some (.map (ents 0 (xs ++ [y])).toArray (c + 1)) ∧ Chg [g] w w' := by
  have hl : g < w.heap.size := (Array.getElem?_eq_some_iff.1 hb).1
  have hf := findNow_miss xs 0 0 xs.length (by omega)
  have hs := ents_push xs 0 y
  simp only [Nat.zero_add] at hs
  rw [← hv] at hf hs
  have hg : (getObj g).run P w = .ok (.map (ents 0 xs).toArray c) w := by simp [getObj, Sem.run, hb]
  refine ⟨_, ?_, ?_, setMap_chg w g (.map (ents 0 (xs ++ [y])).toArray (c + 1)) hl⟩
  · unfold Instr.mapUpdate
    rw [Sem.run_bind, run_underlying ht w, Result.andThen_ok]
    simp only [Sem.run_bind, hg, Result.andThen_ok, run_checkKey _ _ hk, run_find hk _ _ _ hf]
    subst hc
    simp [setObj, Sem.run, hb, hs]
  · simp [hl]
theorem gate_map {P : Program} {ops : Array Oper} {rest : List Oper} {o : Oper} {a : Act} {Q : Exit → Act → World → Prop} {W : World} {t : TypeId} {m k v : Operand} (_ho : o.op = .mapUpdate t m k v) (h : wpList P ops Q (o :: rest) a W) : wpList P ops Q (o :: rest) a W := h
/-- At the operations. -/
theorem wpList_look {ops : Array Oper} {rest : List Oper} {o : Oper} {a : Act} {Q : Exit → Act → World → Prop} (hg : o.guard = none) (m x : Operand) (hop : o.op = Op.lookup t m x false) (ht : P.underlying t = some (.map kt et)) (hk : P.underlying kt = some (.int .i64))
    (hm : a.eval m = .map (some g)) (h : MapI w g xs) (k : Nat) (hkl : k < xs.length) (v : Int) (hx : a.eval x = .int .i64 v) (hv : v = ((k + 1 : Nat) : Int)) (hK : wpList P ops Q rest (a.put o.dst (.int .i64 xs[k])) w) : wpList P ops Q (o :: rest) a w := by
  refine wpList_plain hg fun K' hK' => ?_
  have hrun := run_look ht hk h k hkl v hv
  unfold Oper.wp
  simp [execOp, hop, hm, hx, hrun, Result.andThen]
  exact hK' _ _ hK
theorem wpList_lookv {ops : Array Oper} {rest : List Oper} {o : Oper} {a : Act} {Q : Exit → Act → World → Prop} (hg : o.guard = none) (m x : Operand) (hop : o.op = Op.lookup t m x false) (ht : P.underlying t = some (.map kt et)) (hk : P.underlying kt = some (.int .i64))
    (hm : a.eval m = .map (some g)) (h : MapI w g xs) (k : Nat) (hkl : k < xs.length) (z : Int) (hz : xs.getD k 0 = z) (v : Int) (hx : a.eval x = .int .i64 v) (hv : v = ((k + 1 : Nat) : Int)) (hK : wpList P ops Q rest (a.put o.dst (.int .i64 z)) w) : wpList P ops Q (o :: rest) a w := by
  have e : xs[k] = z := by rw [← hz]; simp [hkl]
  exact wpList_look hg m x hop ht hk hm h k hkl v hx hv (by rw [e]; exact hK)
theorem wpList_mapset {ops : Array Oper} {rest : List Oper} {o : Oper} {a : Act} {Q : Exit → Act → World → Prop} (hg : o.guard = none) (m x z : Operand) (hop : o.op = Op.mapUpdate t m x z) (ht : P.underlying t = some (.map kt et)) (hk : P.underlying kt = some (.int .i64))
    (hm : a.eval m = .map (some g)) (h : MapI w g xs) (k : Nat) (hkl : k < xs.length) (v y : Int) (hx : a.eval x = .int .i64 v) (hz : a.eval z = .int .i64 y) (hv : v = ((k + 1 : Nat) : Int))
    (hK : ∀ w', MapI w' g (xs.set k y) → Chg [g] w w' → wpList P ops Q rest (a.put o.dst undef) w') : wpList P ops Q (o :: rest) a w := by
  refine wpList_plain hg fun K' hK' => ?_
  obtain ⟨w', hrun, r1, r2⟩ := run_mapset ht hk h k hkl v y hv
  unfold Oper.wp
  simp [execOp, hop, hm, hx, hz, hrun, Result.andThen]
  exact hK' _ _ (hK w' r1 r2)
theorem wpList_mappush {ops : Array Oper} {rest : List Oper} {o : Oper} {a : Act} {Q : Exit → Act → World → Prop} (hg : o.guard = none) (m x z : Operand) (hop : o.op = Op.mapUpdate t m x z) (ht : P.underlying t = some (.map kt et)) (hk : P.underlying kt = some (.int .i64))
    (hm : a.eval m = .map (some g)) (c : Nat) (hb : w.heap[g]? = some (.map (ents 0 xs).toArray c)) (hc : c = xs.length) (v y : Int) (hx : a.eval x = .int .i64 v) (hz : a.eval z = .int .i64 y) (hv : v = ((xs.length + 1 : Nat) : Int))
    (hK : ∀ w', w'.heap[g]? = some (.map (ents 0 (xs ++ [y])).toArray (c + 1)) → Chg [g] w w' → wpList P ops Q rest (a.put o.dst undef) w') : wpList P ops Q (o :: rest) a w := by
  refine wpList_plain hg fun K' hK' => ?_
  obtain ⟨w', hrun, r1, r2⟩ := run_mappush ht hk c hb hc v y hv
  unfold Oper.wp
  simp [execOp, hop, hm, hx, hz, hrun, Result.andThen]
  exact hK' _ _ (hK w' r1 r2)
end
end Go.Proofs.Ytnpggjlhdnbgoaa
