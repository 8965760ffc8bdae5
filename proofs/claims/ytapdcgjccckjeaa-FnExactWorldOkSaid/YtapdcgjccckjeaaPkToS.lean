/- The laws' copy of a slice of packets. -/
import Derived.Test.YtapdcgjccckjeaaPkRow
namespace Go.Proofs.Ytapdcgjccckjeaa
set_option maxRecDepth 100000
set_option linter.unusedVariables false
set_option linter.unusedSimpArgs false
open Go.RowKit
theorem pinfo88 : (Try.prog.info? 88).map (fun i => (i.zero, i.size, i.bytes)) = some (some (.agg #[.int .i64 0, .int .i64 0, .int .i64 0, .int .i64 0, .int .i64 0, .int .i64 0, .int .i64 0]), 7, 56) := by kernel_rfl
theorem psize86 : (Try.prog.info? 86).map (·.size) = some 7 := by kernel_rfl
def zPk : Pk := ⟨0, 0, 0, 0, 0, 0, 0⟩
theorem zPk_ok : zPk.ok64 := by unfold Pk.ok64 zPk; refine ⟨⟨?_, ?_⟩, ⟨?_, ?_⟩, ⟨?_, ?_⟩, ⟨?_, ?_⟩, ⟨?_, ?_⟩, ⟨?_, ?_⟩, ⟨?_, ?_⟩⟩ <;> simp
theorem wpList_rowload {P : Program} {ops : Array Oper} {rest : List Oper} {o : Oper} {a : Act} {Q : Exit → Act → World → Prop} {w : World} (hg : o.guard = none) (ty : TypeId) (x : Operand) (ho : o.op = .load ty x) (ad : Addr) (hx : a.eval x = .pointer (some ad)) (n : Nat) (cs : List Value) (d : TypeDesc) (hl : cs.length = n) (hc : ∀ j, j < n → w.cell? (ad.add j) = cs[j]?)
    (hu : P.underlying ty = some d) (hd : (match d with | .struct _ | .array _ _ => true | _ => false) = true) (hi : (P.info? ty).map (·.size) = some n) (h : wpList P ops Q rest (a.put o.dst (.agg cs.toArray)) w) : wpList P ops Q (o :: rest) a w :=
  wpList_plain hg fun K hK => by
    unfold Oper.wp execOp
    simp only [ho, hx, Instr.loadAt, Instr.sureAddr, Sem.run_bind, Sem.run_pure, Result.andThen_ok, run_loadVar_cells w ad n ty cs d hl hc hu hd hi]
    exact hK _ _ h
set_option maxHeartbeats 1600000 in
theorem toPacketS_c (w : World) (v : Value) (xs : List Pk) (h1 : tPk.row w v xs) (hm : xs.length ≤ 1048576) : Calls Try.prog 111 #[v] w (RetRow tPk 88 xs w) := by
  obtain ⟨A1, c1, rfl⟩ := h1.val
  obtain ⟨i0, hi, hz⟩ := Option.map_eq_some_iff.1 pinfo88
  simp only [Prod.mk.injEq] at hz
  obtain ⟨hz0, hz1, hz2⟩ := hz
  have hmk : ∀ W : World, (Instr.makeSlice 27 (.int .i64 (xs.length : Int)) (.int .i64 (xs.length : Int))).run Try.prog W = .ok (.slice (some ⟨W.heap.size, 0, none⟩) xs.length xs.length) (W.alloc (.cells (madeCells zPk.cells.toArray (xs.length * 7)) 88)) := by
    intro W
    have hr := run_make (P := Try.prog) W 27 88 i0 _ Try.underlying27 hi hz0 .i64 .i64 xs.length xs.length (by omega) (Int.le_refl _) (by rw [hz2]; omega) (by omega)
    simp only [Int.toNat_natCast, hz1] at hr
    exact hr
  have hmade := orow_made tPk 88 w zPk zPk.cells xs.length (fun _ => ⟨⟨rfl, zPk_ok⟩, rfl⟩) (by omega)
  rw [show xs.length * tPk.sz = xs.length * 7 from rfl] at hmade
  go_enter Try.func111, Try.ntmps111
  go_wp2
  go_loopw [4] (fun i wr => ∃ k : Nat, k ≤ xs.length ∧ i = .int .i64 k ∧ tPk.orow 88 wr (.slice (some ⟨w.heap.size, 0, none⟩) xs.length xs.length) (xs.take k ++ List.replicate (xs.length - k) zPk) [w.heap.size] ∧ Fr w wr) (fun i _ => xs.length - (intOf i).toNat)
  case atStart => exact ⟨0, Nat.zero_le _, rfl, by simpa using hmade, (Fr.refl w).alloc _⟩
  case round =>
    clear hmade hmk
    obtain ⟨k, hk, rfl, hr, hc⟩ := hrel
    have hl : (xs.take k ++ List.replicate (xs.length - k) zPk).length = xs.length := by simp; omega
    by_cases hlt : k < xs.length
    · obtain ⟨ad1, rfl, hok, g1⟩ := row_pk_at (h1.fr hc) k hlt
      have HL := Lib.hid (show k < (xs.take k ++ List.replicate (xs.length - k) zPk).length by omega)
      have HS := Lib.hid (take_set_rep xs zPk k hlt)
      clear hl
      have p1 : (k : Int) < (xs.length : Int) := by omega
      go_wp2_with (first
        | ((with_reducible refine gate_dst (N := 19) rfl ?_); refine wpList_rowload rfl _ _ rfl (ad1.add (k * 7)) rfl 7 xs[k].cells _ rfl g1 Try.underlying86 rfl psize86 ?_)
        | (go_at_call 57; (with_reducible refine (toPacket_c _ xs[k] hok).mono ?_); rintro e w9 ⟨rfl, f9⟩; have q9 := hc.trans f9; have r9 := hr.fr f9)
        | ((with_reducible refine gate_store (p := 21) rfl ?_); refine wpList_pkstore r9 HL.out xs[k] hok rfl _ _ _ rfl rfl rfl psize88 ?_; intro w8 ho8 c8; replace ho8 := Eq.mp (congrArg (fun l => tPk.orow _ w8 _ l _) HS.out) ho8; have q8 := q9.own c8 (fun q hq => by rw [List.mem_singleton.1 hq]; exact Nat.le_refl _)))
      go_roundw
      case rel => exact ⟨k + 1, by omega, by go_num, ho8, q8⟩
      case measure => simp [intOf]; omega
    · obtain rfl : k = xs.length := by omega
      go_wp2
      go_ret
      exact ⟨_, _, rfl, by simpa using hr, by simp, by simp, hc⟩
end Go.Proofs.Ytapdcgjccckjeaa
