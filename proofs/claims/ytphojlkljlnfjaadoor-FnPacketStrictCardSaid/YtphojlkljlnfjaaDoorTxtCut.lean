/- A packet's text with a letter more or less, in plain Lean; strings cut and put together in a walk. -/
import Derived.Test.YtphojlkljlnfjaaDoorPrd
import Derived.Laws.Strings3
namespace Go.Proofs.YtphojlkljlnfjaaDoor
set_option maxRecDepth 100000
set_option linter.unusedVariables false
set_option linter.unusedSimpArgs false
open Go.RowKit
theorem cutA_end : ∀ (s cur : List UInt8), cutA cur (s ++ [32]) = cutA cur s ++ [[]]
  | [], cur => by simp [cutA]
  | c :: s, cur => by
    rw [List.cons_append, cutA, cutA]
    split
    · rw [cutA_end s []]; rfl
    · rw [cutA_end s _]
theorem rd_end {p : Pk} (h : okPk p = true) : rdV (txt p ++ [32]) = (zeroPk, false) := rdV_no fun q hq e => by
  have h1 := congrArg List.length (congrArg (cutA []) e)
  rw [cutA_end, txt_cut (okPk_small h), txt_cut (okPk_small hq)] at h1
  simp at h1
theorem rd_ahead {p : Pk} (h : okPk p = true) : rdV (48 :: txt p) = (zeroPk, false) := rdV_no fun q hq e => by
  have sp := okPk_small h
  have sq := okPk_small hq
  have b1 : p.seq < 10 := by have := okPk_iff.1 h; omega
  have b2 : q.seq < 10 := by have := okPk_iff.1 hq; omega
  have e1 : 48 :: txt p = (48 :: decS p.seq) ++ 32 :: (decS p.kind ++ 32 :: (decS p.frm ++ 32 :: (decS p.dst ++ 32 :: (decS p.sum ++ 32 :: (decS p.til ++ 32 :: decS p.ver))))) := rfl
  have hne : ∀ c ∈ (48 :: decS p.seq : List UInt8), c ≠ 32 := fun c hc => by
    rcases List.mem_cons.1 hc with rfl | hc
    · decide
    · exact decS_ne sp.seq.2 c hc
  have h1 := congrArg (cutA []) e
  rw [e1, cutA_blank _ _ hne, txt_cut sq] at h1
  injection h1 with h2 _
  rw [decS_one b1, decS_one b2] at h2
  simp at h2
theorem rd_short {p : Pk} (n : Nat) (h : okPk p = true) (hn : n < (txt p).length) (hr : (rdV ((txt p).take n)).2 = true) : (rdV ((txt p).take n)).1 ≠ p := by
  intro e
  unfold rdV at hr e
  split at hr
  · rename_i hc
    rw [if_pos hc] at e
    have e2 : rdP (cutA [] ((txt p).take n)) = p := e
    rw [e2] at hc
    have := congrArg List.length hc.2
    rw [List.length_take] at this
    omega
  · cases hr
section
variable {ops : Array Oper} {rest : List Oper} {o : Oper} {a : Act} {Q : Exit → Act → World → Prop} {W : World}
theorem aCat {l1 l2 : List UInt8} {t t2 : TypeId} {x y : Operand} (h : wpList Tryd.prog ops Q rest (a.put o.dst (.string ⟨(l1 ++ l2).toArray⟩)) W) (hl : l1.length + l2.length ≤ 1000000) (hg : o.guard = none := by exact rfl) (ho : o.op = .binOp .add t x y t2 := by exact rfl) (hx : a.eval x = .string ⟨l1.toArray⟩ := by exact rfl) (hy : a.eval y = .string ⟨l2.toArray⟩ := by exact rfl) : wpList Tryd.prog ops Q (o :: rest) a W := by
  refine aRun ?_ h hg
  unfold execOp
  simp [ho, hx, hy, eqGuard, Sem.run_bind, run_addS l1 l2 hl]
theorem extract_take (l : List UInt8) (n : Nat) : (⟨l.toArray⟩ : ByteArray).extract 0 n = ⟨(l.take n).toArray⟩ := by
  apply ByteArray.ext
  simp [ByteArray.data_extract]
theorem extract_drop (l : List UInt8) (n : Nat) : (⟨l.toArray⟩ : ByteArray).extract n l.length = ⟨(l.drop n).toArray⟩ := by
  apply ByteArray.ext
  simp [ByteArray.data_extract, List.take_of_length_le]
theorem aTake {l : List UInt8} {x y : Operand} {n : Nat} {m : Int} (h : wpList Tryd.prog ops Q rest (a.put o.dst (.string ⟨(l.take n).toArray⟩)) W) (hm : m = n) (hn : n ≤ l.length) (hg : o.guard = none := by exact rfl) (ho : o.op = .slice 9 x none (some y) none := by exact rfl) (hx : a.eval x = .string ⟨l.toArray⟩ := by exact rfl) (hy : a.eval y = .int .i64 m := by exact rfl) : wpList Tryd.prog ops Q (o :: rest) a W := by
  subst hm
  refine aRun ?_ h hg
  have hs : (⟨l.toArray⟩ : ByteArray).size = l.length := by simp [ByteArray.size]
  unfold execOp
  simp only [ho, hx]
  simp only [Sem.run_bind, Option.map, hy]
  have hrun : (Instr.sliceAt 9 (.string ⟨l.toArray⟩) none (some (.int .i64 n)) none).run Tryd.prog W = .ok (.string ⟨(l.take n).toArray⟩) W := by
    unfold Instr.sliceAt
    simp only [Sem.run_bind, run_underlying Tryd.underlying9, Result.andThen_ok]
    rw [run_slice_string_to_if (h := Tryd.underlying9), if_pos (by rw [hs]; omega), Int.toNat_natCast, extract_take]
  rw [hrun]
  rfl
theorem aPkNe {p q : Pk} {x y : Operand} {t2 : TypeId} (h : wpList Tryd.prog ops Q rest (a.put o.dst (.bool (decide (p ≠ q)))) W) (hg : o.guard = none := by exact rfl) (ho : o.op = .binOp .neq 24 x y t2 := by exact rfl) (hx : a.eval x = .agg p.cells.toArray := by exact rfl) (hy : a.eval y = .agg q.cells.toArray := by exact rfl) : wpList Tryd.prog ops Q (o :: rest) a W := by
  have hm : Tryd.prog.eqGuardType Tryd.prog.depth 24 = false := by kernel_rfl
  have he : (Op.equalIn 10000 24 (.agg p.cells.toArray) (.agg q.cells.toArray)).run Tryd.prog W = .ok (decide (p = q)) W := by
    have k := pkEq p q W
    rw [run_eql_struct] at k
    cases hr : (Op.equalIn 10000 24 (.agg p.cells.toArray) (.agg q.cells.toArray)).run Tryd.prog W with
    | ok b w2 =>
      rw [hr] at k
      simp only [Result.andThen_ok] at k
      injection k with k1 k2
      injection k1 with k1
      rw [k1, k2]
    | halt z w2 =>
      rw [hr] at k
      cases k
  refine aRun ?_ h hg
  unfold execOp
  simp only [ho, hx, hy, Sem.run_bind]
  rw [run_eqGuard_agg (hm := hm)]
  simp only [Result.andThen_ok]
  rw [run_neq_struct, he]
  simp only [Result.andThen_ok, decide_not]
  rfl
end
end Go.Proofs.YtphojlkljlnfjaaDoor
