/- Two packets compared. -/
import Derived.Test.YtphojlkljlnfjaaDoorTxt
import Derived.Test.YtphojlkljlnfjaaDoorTypes
import Derived.Laws.StructEq
namespace Go.Proofs.YtphojlkljlnfjaaDoor
set_option maxRecDepth 100000
set_option linter.unusedVariables false
set_option linter.unusedSimpArgs false
open Go.RowKit
theorem Pk.eq_iff (p q : Pk) : p = q ↔ p.seq = q.seq ∧ p.kind = q.kind ∧ p.frm = q.frm ∧ p.dst = q.dst ∧ p.sum = q.sum ∧ p.til = q.til ∧ p.ver = q.ver := by
  cases p; cases q; simp
instance : DecidableEq Pk := fun p q => decidable_of_iff _ (Pk.eq_iff p q).symm
theorem pkEq_raw (a1 a2 a3 a4 a5 a6 a7 b1 b2 b3 b4 b5 b6 b7 : Int) (w : World) : (binOp .eql 24 (.agg #[.int .i64 a1, .int .i64 a2, .int .i64 a3, .int .i64 a4, .int .i64 a5, .int .i64 a6, .int .i64 a7]) (.agg #[.int .i64 b1, .int .i64 b2, .int .i64 b3, .int .i64 b4, .int .i64 b5, .int .i64 b6, .int .i64 b7])).run Tryd.prog w = .ok (.bool (decide ((⟨a1, a2, a3, a4, a5, a6, a7⟩ : Pk) = ⟨b1, b2, b3, b4, b5, b6, b7⟩))) w := by
  go_simp
  try simp only [Pk.eq_iff]
  repeat' split
  all_goals simp_all
theorem pkEq (p q : Pk) (w : World) : (binOp .eql 24 (.agg p.cells.toArray) (.agg q.cells.toArray)).run Tryd.prog w = .ok (.bool (decide (p = q))) w := pkEq_raw _ _ _ _ _ _ _ _ _ _ _ _ _ _ w
section
variable {ops : Array Oper} {rest : List Oper} {o : Oper} {a : Act} {Q : Exit → Act → World → Prop} {W : World}
/-- An operation's run is known. -/
theorem aRun {v : Value} {w1 : World} (hr : (execOp a.eval o).run Tryd.prog W = .ok (.value v) w1) (h : wpList Tryd.prog ops Q rest (a.put o.dst v) w1) (hg : o.guard = none := by exact rfl) : wpList Tryd.prog ops Q (o :: rest) a W := by
  refine wpList_plain hg fun K hK => ?_
  have hk := hK _ _ h
  unfold Oper.wp
  rw [hr]
  exact hk
/-- Two packets are compared. -/
theorem aPkEq {p q : Pk} {x y : Operand} {t2 : TypeId} (h : wpList Tryd.prog ops Q rest (a.put o.dst (.bool (decide (p = q)))) W) (hg : o.guard = none := by exact rfl) (ho : o.op = .binOp .eql 24 x y t2 := by exact rfl) (hx : a.eval x = .agg p.cells.toArray := by exact rfl) (hy : a.eval y = .agg q.cells.toArray := by exact rfl) : wpList Tryd.prog ops Q (o :: rest) a W := by
  have hm : Tryd.prog.eqGuardType Tryd.prog.depth 24 = false := by kernel_rfl
  refine aRun ?_ h hg
  unfold execOp
  simp only [ho, hx, hy, Sem.run_bind]
  rw [run_eqGuard_agg (hm := hm)]
  simp only [Result.andThen_ok]
  rw [pkEq]
  rfl
end
end Go.Proofs.YtphojlkljlnfjaaDoor
