/- Two packets compared whole. -/
import Derived.Test.YthnjambkgldjdaaPk
import Derived.RegionTactic
import Derived.ChangeKeysEq
import Derived.Test.YthnjambkgldjdaaSep2
namespace Go.Proofs.Ythnjambkgldjdaa
set_option linter.unusedVariables false
set_option linter.unusedSimpArgs false
open Go.RowKit
def eqPk (p q : Pk) : Bool := (p.seq == q.seq) && ((p.kind == q.kind) && ((p.frm == q.frm) && ((p.dst == q.dst) && ((p.sum == q.sum) && ((p.til == q.til) && (p.ver == q.ver))))))
theorem run_eqint (w : World) (d : Nat) (a b : Int) : (Op.equalIn (d + 1) 3 (.int .i64 a) (.int .i64 b)).run Try.prog w = .ok (a == b) w := by
  simp [Op.equalIn, run_underlying Try.underlying3]
theorem run_part7_0 (w : World) (x0 x1 x2 x3 x4 x5 x6 : Value) : (part 3 #[x0, x1, x2, x3, x4, x5, x6] 0).run Try.prog w = .ok x0 w := by kernel_rfl
theorem run_part7_1 (w : World) (x0 x1 x2 x3 x4 x5 x6 : Value) : (part 3 #[x0, x1, x2, x3, x4, x5, x6] 1).run Try.prog w = .ok x1 w := by kernel_rfl
theorem run_part7_2 (w : World) (x0 x1 x2 x3 x4 x5 x6 : Value) : (part 3 #[x0, x1, x2, x3, x4, x5, x6] 2).run Try.prog w = .ok x2 w := by kernel_rfl
theorem run_part7_3 (w : World) (x0 x1 x2 x3 x4 x5 x6 : Value) : (part 3 #[x0, x1, x2, x3, x4, x5, x6] 3).run Try.prog w = .ok x3 w := by kernel_rfl
theorem run_part7_4 (w : World) (x0 x1 x2 x3 x4 x5 x6 : Value) : (part 3 #[x0, x1, x2, x3, x4, x5, x6] 4).run Try.prog w = .ok x4 w := by kernel_rfl
theorem run_part7_5 (w : World) (x0 x1 x2 x3 x4 x5 x6 : Value) : (part 3 #[x0, x1, x2, x3, x4, x5, x6] 5).run Try.prog w = .ok x5 w := by kernel_rfl
theorem run_part7_6 (w : World) (x0 x1 x2 x3 x4 x5 x6 : Value) : (part 3 #[x0, x1, x2, x3, x4, x5, x6] 6).run Try.prog w = .ok x6 w := by kernel_rfl
theorem run_eqlpk (w : World) (d : Nat) (a0 a1 a2 a3 a4 a5 a6 b0 b1 b2 b3 b4 b5 b6 : Int) : (Op.equalIn (d + 2) 41 (.agg #[.int .i64 a0, .int .i64 a1, .int .i64 a2, .int .i64 a3, .int .i64 a4, .int .i64 a5, .int .i64 a6]) (.agg #[.int .i64 b0, .int .i64 b1, .int .i64 b2, .int .i64 b3, .int .i64 b4, .int .i64 b5, .int .i64 b6])).run Try.prog w = .ok ((a0 == b0) && ((a1 == b1) && ((a2 == b2) && ((a3 == b3) && ((a4 == b4) && ((a5 == b5) && (a6 == b6))))))) w := by
  have st : (Try.prog).stoodInHeld 41 = false := by kernel_rfl
  rw [show d + 2 = (d + 1) + 1 from rfl]
  unfold Op.equalIn
  cases e0 : a0 == b0
  · simp [run_underlying Try.underlying41, st, run_part7_0, run_part7_1, run_part7_2, run_part7_3, run_part7_4, run_part7_5, run_part7_6, run_eqint, e0, -beq_eq_false_iff_ne, -beq_iff_eq]
  cases e1 : a1 == b1
  · simp [run_underlying Try.underlying41, st, run_part7_0, run_part7_1, run_part7_2, run_part7_3, run_part7_4, run_part7_5, run_part7_6, run_eqint, e0, e1, -beq_eq_false_iff_ne, -beq_iff_eq]
  cases e2 : a2 == b2
  · simp [run_underlying Try.underlying41, st, run_part7_0, run_part7_1, run_part7_2, run_part7_3, run_part7_4, run_part7_5, run_part7_6, run_eqint, e0, e1, e2, -beq_eq_false_iff_ne, -beq_iff_eq]
  cases e3 : a3 == b3
  · simp [run_underlying Try.underlying41, st, run_part7_0, run_part7_1, run_part7_2, run_part7_3, run_part7_4, run_part7_5, run_part7_6, run_eqint, e0, e1, e2, e3, -beq_eq_false_iff_ne, -beq_iff_eq]
  cases e4 : a4 == b4
  · simp [run_underlying Try.underlying41, st, run_part7_0, run_part7_1, run_part7_2, run_part7_3, run_part7_4, run_part7_5, run_part7_6, run_eqint, e0, e1, e2, e3, e4, -beq_eq_false_iff_ne, -beq_iff_eq]
  cases e5 : a5 == b5
  · simp [run_underlying Try.underlying41, st, run_part7_0, run_part7_1, run_part7_2, run_part7_3, run_part7_4, run_part7_5, run_part7_6, run_eqint, e0, e1, e2, e3, e4, e5, -beq_eq_false_iff_ne, -beq_iff_eq]
  cases e6 : a6 == b6
  · simp [run_underlying Try.underlying41, st, run_part7_0, run_part7_1, run_part7_2, run_part7_3, run_part7_4, run_part7_5, run_part7_6, run_eqint, e0, e1, e2, e3, e4, e5, e6, -beq_eq_false_iff_ne, -beq_iff_eq]
  simp [run_underlying Try.underlying41, st, run_part7_0, run_part7_1, run_part7_2, run_part7_3, run_part7_4, run_part7_5, run_part7_6, run_eqint, e0, e1, e2, e3, e4, e5, e6, -beq_eq_false_iff_ne, -beq_iff_eq]
theorem eqPk_iff {p q : Pk} : eqPk p q = true ↔ p = q := by
  cases p
  cases q
  simp [eqPk]
section
variable {ops : Array Oper} {rest : List Oper} {o : Oper} {a : Act} {Q : Exit → Act → World → Prop} {W : World}
theorem yields_eqpk {T : World → Prop} (hw : Region.wanted o (yielded ops a.tmps) = true) (x y : Operand) (z : TypeId) (ho : o.op = .binOp .eql 41 x y z) (p q : Pk) (hx : a.eval x = .agg #[.int .i64 p.seq, .int .i64 p.kind, .int .i64 p.frm, .int .i64 p.dst, .int .i64 p.sum, .int .i64 p.til, .int .i64 p.ver]) (hy : a.eval y = .agg #[.int .i64 q.seq, .int .i64 q.kind, .int .i64 q.frm, .int .i64 q.dst, .int .i64 q.sum, .int .i64 q.til, .int .i64 q.ver]) {r : Bool} (hr : eqPk p q = r) :
    YieldsIf Try.prog ops T o (.bool r) a := yields_of_run hw fun W _ => by
  have g1 : (Try.prog).eqGuardType (Try.prog).depth 41 = false := by kernel_rfl
  subst hr
  unfold execOp
  simp only [ho, hx, hy, Sem.run_bind, run_eqGuard_agg W _ _ _ _ _ _ g1, run_eql_struct, Result.andThen_ok, Sem.run_pure, run_eqlpk W 9998]
  rfl
end
end Go.Proofs.Ythnjambkgldjdaa
