/- Packets as data: what the laws' helpers for them, and the program's and the reference's PacketOk come to. -/
import Derived.Test.YtphojlkljlnfjaaDoorProg
import Derived.Test.YtphojlkljlnfjaaDoorBase
import Derived.Test.YtphojlkljlnfjaaDoorUsers
import Derived.RegionTactic
namespace Go.Proofs.YtphojlkljlnfjaaDoor
set_option maxRecDepth 100000
set_option linter.unusedVariables false
set_option linter.unusedSimpArgs false
open Go.RowKit

structure Pk where
  seq : Int
  kind : Int
  frm : Int
  dst : Int
  sum : Int
  til : Int
  ver : Int
def Pk.ok64 (p : Pk) : Prop := (-9223372036854775808 ≤ p.seq ∧ p.seq ≤ 9223372036854775807) ∧ (-9223372036854775808 ≤ p.kind ∧ p.kind ≤ 9223372036854775807) ∧ (-9223372036854775808 ≤ p.frm ∧ p.frm ≤ 9223372036854775807) ∧ (-9223372036854775808 ≤ p.dst ∧ p.dst ≤ 9223372036854775807) ∧ (-9223372036854775808 ≤ p.sum ∧ p.sum ≤ 9223372036854775807) ∧ (-9223372036854775808 ≤ p.til ∧ p.til ≤ 9223372036854775807) ∧ (-9223372036854775808 ≤ p.ver ∧ p.ver ≤ 9223372036854775807)
def Pk.cells (p : Pk) : List Value := [.int .i64 p.seq, .int .i64 p.kind, .int .i64 p.frm, .int .i64 p.dst, .int .i64 p.sum, .int .i64 p.til, .int .i64 p.ver]
def tPk : Ty Pk where
  sz := 7
  rd := fun _ p cs => cs = p.cells ∧ p.ok64
  own := fun _ p cs F => (cs = p.cells ∧ p.ok64) ∧ F = []
  len := fun h => by rw [h.1]; rfl
  fr := fun _ h => h
  own_rd := fun h => h.1
  own_lt := fun h g hg => by rw [h.2] at hg; cases hg
  keep := fun h _ => h
  one := by
    intro w x cs F h u hu
    rw [h.1.1] at hu
    simp only [Pk.cells, List.mem_cons, List.not_mem_nil, or_false] at hu
    rcases hu with rfl | rfl | rfl | rfl | rfl | rfl | rfl <;> rfl
theorem tPk_flat : tPk.flat := fun h => h.2
theorem tPk_cells {w : World} {p : Pk} {cs : List Value} (h : tPk.rd w p cs) : cs = p.cells := h.1
theorem tPk_mk {w : World} {p : Pk} (h : p.ok64) : tPk.rd w p p.cells := ⟨rfl, h⟩
/-- A packet is within its bounds. -/
def okPk (p : Pk) : Bool := decide (1 ≤ p.seq ∧ p.seq ≤ 8) && decide (1 ≤ p.kind ∧ p.kind ≤ 2) && decide (1 ≤ p.frm ∧ p.frm ≤ 3) && decide (0 ≤ p.dst ∧ p.dst ≤ 3) && decide (1 ≤ p.sum ∧ p.sum ≤ 9) && decide (1 ≤ p.til ∧ p.til ≤ 90) && decide (1 ≤ p.ver ∧ p.ver ≤ 9)

theorem psize24 : (Tryd.prog.info? 24).map (·.size) = some 7 := by kernel_rfl
theorem psize3 : (Tryd.prog.info? 3).map (·.size) = some 1 := by kernel_rfl
theorem pzero24 (w : World) : (zeroValue 24).run Tryd.prog w = .ok (.agg #[.int .i64 0, .int .i64 0, .int .i64 0, .int .i64 0, .int .i64 0, .int .i64 0, .int .i64 0]) w := by kernel_rfl

end Go.Proofs.YtphojlkljlnfjaaDoor
