/- What the laws' helpers for slices of packets come to. -/
import Derived.Test.YtapdcgjccckjeaaProg
import Derived.Test.YtapdcgjccckjeaaBase
import Derived.Test.YtapdcgjccckjeaaInts
import Derived.Test.YtapdcgjccckjeaaPk
import Derived.Test.YtapdcgjccckjeaaPkTo
import Derived.StillTailTactics
import Derived.Deep.Slices
namespace Go.Proofs.Ytapdcgjccckjeaa
set_option maxRecDepth 100000
set_option linter.unusedVariables false
set_option linter.unusedSimpArgs false
open Go.RowKit
set_option maxHeartbeats 800000 in
theorem eqPacket_c (w : World) (p : Pk) : Calls Try.prog 128 #[.agg p.cells.toArray, .agg p.cells.toArray] w (Ret (.bool true) w) := by
  have f := Fr.refl w
  go_enter Try.func128, Try.ntmps128
  go_wp2_with (first
    | ((with_reducible refine gate_dst (N := 2) rfl ?_); refine wpList_box rfl _ _ rfl #[.int .i64 p.seq, .int .i64 p.kind, .int .i64 p.frm, .int .i64 p.dst, .int .i64 p.sum, .int .i64 p.til, .int .i64 p.ver] rfl ?_; intro g_k2 w9 hg_k2 k2 f9; have zf_k2 := f.size; have hl_k2 := k2.lt; have z9 := f9.size; replace f := f.trans f9; (try (replace k3 := k3.fr f9; (try clear r_k3); have r_k3 := k3.cells)); (try clear r_k2); have r_k2 := k2.cells)
    | ((with_reducible refine gate_dst (N := 3) rfl ?_); refine wpList_box rfl _ _ rfl #[.int .i64 p.seq, .int .i64 p.kind, .int .i64 p.frm, .int .i64 p.dst, .int .i64 p.sum, .int .i64 p.til, .int .i64 p.ver] rfl ?_; intro g_k3 w9 hg_k3 k3 f9; have zf_k3 := f.size; have hl_k3 := k3.lt; have z9 := f9.size; replace f := f.trans f9; (try (replace k2 := k2.fr f9; (try clear r_k2); have r_k2 := k2.cells)); (try clear r_k3); have r_k3 := k3.cells))
  go_ret
  exact ⟨rfl, f⟩
/-- A packet of a slice: its cells. -/
theorem row_pk_at {w : World} {A : Option Addr} {n c : Nat} {xs : List Pk} (h : tPk.row w (.slice A n c) xs) (k : Nat) (hk : k < xs.length) : ∃ ad, A = some ad ∧ xs[k].ok64 ∧ ∀ j, j < 7 → w.cell? ((ad.add (k * 7)).add j) = xs[k].cells[j]? := by
  obtain ⟨A', c', e, h1, h2, h3⟩ := h
  obtain ⟨ad, cs, e1, hr, hc⟩ := h3 k hk
  cases e
  subst e1
  obtain ⟨h5, h6⟩ : cs = xs[k].cells ∧ xs[k].ok64 := hr
  subst h5
  refine ⟨ad, rfl, h6, fun j hj => ?_⟩
  have := hc j (by simpa [Pk.cells] using hj)
  rw [List.getElem?_eq_getElem (by simpa [Pk.cells] using hj), Go.Deep.add_add]
  exact this
/-- A struct loaded out of a row, cell by cell. -/
theorem run_loadVar_cells {P : Program} (w : World) (ad : Addr) (n : Nat) (ty : TypeId) (cs : List Value) (d : TypeDesc) (hl : cs.length = n) (hc : ∀ j, j < n → w.cell? (ad.add j) = cs[j]?)
    (hu : P.underlying ty = some d) (hd : (match d with | .struct _ | .array _ _ => true | _ => false) = true) (hi : (P.info? ty).map (·.size) = some n) :
    (loadVar ty ad).run P w = .ok (.agg cs.toArray) w := by
  have h2 : (loadCells ad cs.length).run P w = .ok cs.toArray w :=
    run_loadCells_list (P := P) w ad _ (fun i v hv => by
      have hi' : i < n := by have := (List.getElem?_eq_some_iff.1 hv).1; omega
      rw [hc i hi', hv])
  rw [hl] at h2
  cases hq : P.info? ty with
  | none => simp [hq] at hi
  | some i =>
    have hs : i.size = n := by simpa [hq] using hi
    have hagg : (isAgg ty).run P w = .ok true w := by
      unfold isAgg
      rw [Sem.run_bind, run_underlying hu w]
      cases d <;> simp_all
    simp [loadVar, Sem.run_bind, hagg, sizeOf, typeInfo, hq, hs, h2]
theorem wpStill_rowload {P : Program} {ops : Array Oper} {w : World} {Q : Act → Prop} {a : Act} {o : Oper} {rest : List Oper} (hg : o.guard = none) (ty : TypeId) (x : Operand) (ho : o.op = .load ty x) (ad : Addr) (hx : a.eval x = .pointer (some ad)) (n : Nat) (cs : List Value) (d : TypeDesc) (hl : cs.length = n) (hc : ∀ j, j < n → w.cell? (ad.add j) = cs[j]?)
    (hu : P.underlying ty = some d) (hd : (match d with | .struct _ | .array _ _ => true | _ => false) = true) (hi : (P.info? ty).map (·.size) = some n) (h : wpStill P ops w Q rest (a.put o.dst (.agg cs.toArray))) : wpStill P ops w Q (o :: rest) a :=
  wpStill_step fun K hK => by
    simp only [Region.wanted, hg, if_true]
    unfold Oper.still execOp
    simp only [ho, hx, Instr.loadAt, Instr.sureAddr, Sem.run_bind, Sem.run_pure, Result.andThen_ok, run_loadVar_cells w ad n ty cs d hl hc hu hd hi, Oper.stillUpon]
    exact ⟨trivial, hK _ h⟩
theorem szPacketS_c (w : World) (v : Value) (xs : List Pk) (left : Int) (h1 : tPk.row w v xs) (hl0 : 0 ≤ left) (hl1 : left ≤ 1048576) :
    Calls Try.prog 108 #[v, .int .i64 left] w (Ret (.int .i64 (szr left xs.length)) w) := by
  obtain ⟨A1, c1, rfl⟩ := h1.val
  have hm := h1.le
  unfold szr
  by_cases h : (xs.length : Int) ≤ left
  all_goals
    simp only [h, if_true, if_false]
    go_enter Try.func108, Try.ntmps108
    go_wp2
    go_ret
    exact ⟨rfl, Fr.refl w⟩
set_option maxRecDepth 100000 in
set_option maxHeartbeats 1600000 in
theorem eqPacketS_c (w : World) (v u : Value) (xs : List Pk) (h1 : tPk.row w v xs) (h2 : tPk.row w u xs) : Calls Try.prog 96 #[v, u] w (Ret (.bool true) w) := by
  obtain ⟨A1, c1, rfl⟩ := h1.val
  obtain ⟨A2, c2, rfl⟩ := h2.val
  have hm := h1.le
  go_enter Try.func96, Try.ntmps96
  go_wp2
  go_loopw [5] (fun i wr => ∃ k : Nat, k ≤ xs.length ∧ i = .int .i64 k ∧ Fr w wr) (fun i _ => xs.length - (intOf i).toNat)
  case atStart => exact ⟨0, Nat.zero_le _, rfl, Fr.refl w⟩
  case round =>
    obtain ⟨k, hk, rfl, f⟩ := hrel
    by_cases hlt : k < xs.length
    · obtain ⟨ad1, rfl, _, g1⟩ := row_pk_at (h1.fr f) k hlt
      obtain ⟨ad2, rfl, _, g2⟩ := row_pk_at (h2.fr f) k hlt
      have p0 : (0 : Int) ≤ (k : Int) := Int.natCast_nonneg _
      have p1 : (k : Int) < (xs.length : Int) := by omega
      go_wp2
      go_still_tail 8, (by kernel_rfl)
      refine wpStill_rowload rfl _ _ rfl (ad1.add (k * 7)) rfl 7 xs[k].cells _ rfl g1 Try.underlying88 rfl psize88 ?_
      repeat still_step
      refine wpStill_rowload rfl _ _ rfl (ad2.add (k * 7)) rfl 7 xs[k].cells _ rfl g2 Try.underlying88 rfl psize88 ?_
      repeat still_step
      refine wpStill_nil ?_
      simp only [Act.put, Array.set!_eq_setIfInBounds, List.setIfInBounds_toArray, List.set_cons_zero, List.set_cons_succ]
      obtain ⟨w2, hw2⟩ : ∃ w2, w2 = wr.drew := ⟨_, rfl⟩
      have f2 : Fr w w2 := by rw [hw2]; exact f.drew
      change wpList _ _ _ _ _ wr.drew
      rw [← hw2]
      clear hw2
      go_wp2_with (go_at_call 128; (with_reducible refine (eqPacket_c _ xs[k]).mono ?_); rintro e w9 ⟨rfl, f9⟩)
      go_roundw
      case rel => exact ⟨k + 1, by omega, by go_num, f2.trans f9⟩
      case measure => simp [intOf]; omega
    · go_wp2
      go_ret
      exact ⟨rfl, f⟩
end Go.Proofs.Ytapdcgjccckjeaa
