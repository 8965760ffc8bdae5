/- Packets read out of a slice that reads as a list. -/
import Derived.Test.YtapdcgjccckjeaaSep2
import Derived.Test.YtapdcgjccckjeaaPkS
import Derived.Test.YtapdcgjccckjeaaPkToS
import Derived.Test.YtapdcgjccckjeaaPkOk
namespace Go.Proofs.Ytapdcgjccckjeaa
set_option maxRecDepth 100000
set_option linter.unusedVariables false
set_option linter.unusedSimpArgs false
open Go.RowKit
def Pk.lst (x : Pk) : List Value := [.int .i64 x.seq, .int .i64 x.kind, .int .i64 x.frm, .int .i64 x.dst, .int .i64 x.sum, .int .i64 x.til, .int .i64 x.ver]
theorem PacketOk_l (w : World) (x : Pk) : Calls Try.prog 118 #[.agg #[.int .i64 x.seq, .int .i64 x.kind, .int .i64 x.frm, .int .i64 x.dst, .int .i64 x.sum, .int .i64 x.til, .int .i64 x.ver]] w (Ret (.bool (okPk x)) w) := PacketOk_c w x
theorem sPacketOk_l (w : World) (x : Pk) : Calls Try.prog 116 #[.agg #[.int .i64 x.seq, .int .i64 x.kind, .int .i64 x.frm, .int .i64 x.dst, .int .i64 x.sum, .int .i64 x.til, .int .i64 x.ver]] w (Ret (.bool (okPk x)) w) := sPacketOk_c w x
/-- Element k, as the walks read it: whole, and by its fields. -/
structure PkAt (w : World) (ad : Addr) (x : Pk) : Prop where
  cells : ∀ j, j < 7 → w.cell? (ad.add j) = x.lst[j]?
theorem PkAt.fr {w w' : World} {ad : Addr} {x : Pk} (h : PkAt w ad x) (f : Fr w w') : PkAt w' ad x := ⟨fun j hj => by
  have h1 := h.cells j hj
  have h2 : ∃ v, x.lst[j]? = some v := ⟨x.lst[j]'(by simpa [Pk.lst] using hj), List.getElem?_eq_getElem _⟩
  obtain ⟨v, hv⟩ := h2
  rw [hv] at h1 ⊢
  exact f.cell h1⟩
theorem pkAt_of_row {w : World} {A : Option Addr} {n c : Nat} {xs : List Pk} (h : tPk.row w (.slice A n c) xs) (k : Nat) (hk : k < xs.length) : ∃ ad, A = some ad ∧ PkAt w (ad.add (k * 7)) xs[k] := by
  obtain ⟨ad, e, _, hc⟩ := row_pk_at h k hk
  exact ⟨ad, e, ⟨fun j hj => hc j hj⟩⟩
theorem PkAt.at_ {w : World} {ad : Addr} {x : Pk} (h : PkAt w ad x) (j : Nat) (v : Value) (hv : x.lst[j]? = some v) : w.cell? (ad.add j) = some v := by
  have hj : j < 7 := by
    have := (List.getElem?_eq_some_iff.1 hv).1
    simpa [Pk.lst] using this
  rw [h.cells j hj, hv]
section
variable {P : Program} {ops : Array Oper} {rest : List Oper} {o : Oper} {a : Act} {Q : Exit → Act → World → Prop} {W : World}
theorem wpList_pkld (hw : Region.wanted o (yielded ops a.tmps) = true) (ty : TypeId) (x : Operand) (ho : o.op = .load ty x) {ad : Addr} (hx : a.eval x = .pointer (some ad)) {p : Pk} (hc : PkAt W ad p) (d : TypeDesc)
    (hu : P.underlying ty = some d) (hd : (match d with | .struct _ | .array _ _ => true | _ => false) = true) (hi : (P.info? ty).map (·.size) = some 7) (h : wpList P ops Q rest (a.put o.dst (.agg #[.int .i64 p.seq, .int .i64 p.kind, .int .i64 p.frm, .int .i64 p.dst, .int .i64 p.sum, .int .i64 p.til, .int .i64 p.ver])) W) : wpList P ops Q (o :: rest) a W := by
  refine wpList_of_run hw (v := .agg p.lst.toArray) ?_ h
  unfold execOp
  simp only [ho, hx, Instr.loadAt, Instr.sureAddr, Sem.run_bind, Sem.run_pure, Result.andThen_ok, run_loadVar_cells W ad 7 ty p.lst d rfl hc.cells hu hd hi]
theorem yields_pkld {T : World → Prop} (hw : Region.wanted o (yielded ops a.tmps) = true) (ty : TypeId) (x : Operand) (ho : o.op = .load ty x) {ad : Addr} (hx : a.eval x = .pointer (some ad)) {p : Pk} (hc : ∀ w, T w → PkAt w ad p) (d : TypeDesc)
    (hu : P.underlying ty = some d) (hd : (match d with | .struct _ | .array _ _ => true | _ => false) = true) (hi : (P.info? ty).map (·.size) = some 7) : YieldsIf P ops T o (.agg #[.int .i64 p.seq, .int .i64 p.kind, .int .i64 p.frm, .int .i64 p.dst, .int .i64 p.sum, .int .i64 p.til, .int .i64 p.ver]) a := yields_of_run hw fun W hT => by
  unfold execOp
  have := run_loadVar_cells (P := P) W ad 7 ty p.lst d rfl (hc W hT).cells hu hd hi
  simp only [ho, hx, Instr.loadAt, Instr.sureAddr, Sem.run_bind, Sem.run_pure, Result.andThen_ok, this]
  rfl
end
end Go.Proofs.Ytapdcgjccckjeaa
