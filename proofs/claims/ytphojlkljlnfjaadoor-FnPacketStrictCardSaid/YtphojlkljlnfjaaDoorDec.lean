/- Numbers in decimals, by the reference and by the program; a packet's text. -/
import Derived.Test.YtphojlkljlnfjaaDoorBld
import Derived.Test.YtphojlkljlnfjaaDoorShelf
import Derived.Test.YtphojlkljlnfjaaDoorPkOk
import Derived.Test.YtphojlkljlnfjaaDoorTypes
import Derived.Deep.RegionWith
import Derived.Laws.IdiomStrings
import Derived.Laws.Concat
namespace Go.Proofs.YtphojlkljlnfjaaDoor
set_option maxRecDepth 100000
set_option linter.unusedVariables false
set_option linter.unusedSimpArgs false
open Go.RowKit
theorem byteStr (b : UInt8) (w : World) : (convert 22 9 (.slice (some ⟨w.heap.size, 0, none⟩) 1 1)).run Tryd.prog (w.alloc (.cells #[.int .u8 (b.toNat : Int)] 5)) = .ok (.string ⟨#[b]⟩) (w.alloc (.cells #[.int .u8 (b.toNat : Int)] 5)) := by
  refine run_convert_bytes_back (P := Tryd.prog) _ _ _ 5 ⟨w.heap.size, 0, none⟩ 1 [b] Tryd.underlying22 Tryd.underlying5 Tryd.underlying9 (fun j hj => ?_)
  obtain rfl : j = 0 := by simpa using hj
  rw [addr_add]
  exact World.cell?_alloc_mark w _ _ _ 0
/-- The sign of a figure. -/
theorem dig_sign (k : Nat) (h : k < 10) : ∃ b : UInt8, UInt8.ofNat (48 + k) = b ∧ IntKind.u8.wrap (48 + (k : Int)) = (b.toNat : Int) := by
  refine ⟨_, rfl, ?_⟩
  rw [dig_nat k h]
  show (48 + (k : Int)) % 256 = _
  omega
theorem l6Dec_one (w : World) (n : Int) (h0 : 0 ≤ n) (h1 : n < 10) : Calls Tryd.prog 27 #[.int .i64 n] w (Ret (.string ⟨(decS n).toArray⟩) w) := by
  have d1 : decide (n < -9223372036854775807) = false := decide_eq_false (by omega)
  have d2 : decide (n < 0) = false := decide_eq_false (by omega)
  have d3 : decide (n < 10) = true := decide_eq_true h1
  have d4 : IntKind.i64.wrap (48 + n) = 48 + n := IntWalk.i64_in _ (by omega)
  obtain ⟨b, hb, d5⟩ := dig_sign n.toNat (by omega)
  rw [show ((n.toNat : Nat) : Int) = n by omega] at d5
  have HS := byteStr b w
  rw [decS_one h1, hb]
  clear hb
  go_enter Tryd.func27, Tryd.ntmps27
  go_wp2
  go_ret
  exact ⟨rfl, (Fr.refl w).alloc _⟩
theorem bytes_append (l1 l2 : List UInt8) : (⟨l1.toArray⟩ : ByteArray) ++ ⟨l2.toArray⟩ = ⟨(l1 ++ l2).toArray⟩ := by
  apply ByteArray.ext
  simp [ByteArray.data_append]
theorem run_addS (l1 l2 : List UInt8) (hl : l1.length + l2.length ≤ 1000000) (t : TypeId) (w : World) : (binOp .add t (.string ⟨l1.toArray⟩) (.string ⟨l2.toArray⟩)).run Tryd.prog w = .ok (.string ⟨(l1 ++ l2).toArray⟩) w := by
  rw [binOp_string_add, run_string_add_sum w _ _ (by simp [ByteArray.size]; omega), bytes_append]
section
variable {ops : Array Oper} {o : Oper} {a : Act} {S : World → Prop}
theorem yAdd {l1 l2 : List UInt8} {t t2 : TypeId} {x y : Operand} (hl : l1.length + l2.length ≤ 1000000) (hw : Region.wanted o (yielded ops a.tmps) = true := by exact rfl) (ho : o.op = .binOp .add t x y t2 := by exact rfl) (hx : a.eval x = .string ⟨l1.toArray⟩ := by exact rfl) (hy : a.eval y = .string ⟨l2.toArray⟩ := by exact rfl) : YieldsIf Tryd.prog ops S o (.string ⟨(l1 ++ l2).toArray⟩) a :=
  Or.inl ⟨hw, fun w _ => by unfold execOp; simp [ho, hx, hy, eqGuard, Sem.run_bind, run_addS l1 l2 hl]⟩
end
section
variable {ops : Array Oper} {o : Oper} {a : Act} {Q : Exit → Act → World → Prop} {K : Act → World → Prop} {W w0 : World} {F0 : List Nat} {L : List Asrt}
/-- A slice of one byte is made. -/
theorem rgByte (b : UInt8) (S : Sep F0 w0 L W) (h : ∀ (g : Nat) w1, Sep F0 w0 (aBox g 5 1 [.int .u8 (b.toNat : Int)] :: L) w1 → K (a.put o.dst (.slice (some ⟨g, 0, none⟩) 1 1)) w1) (hw : Region.wanted o (yielded ops a.tmps) = true := by exact rfl)
    (hr : (execOp a.eval o).run Tryd.prog W = .ok (.value (.slice (some ⟨W.heap.size, 0, none⟩) 1 1)) (W.alloc (.cells #[.int .u8 (b.toNat : Int)] 5)) := by first | (go_simp; done) | (go_simp; rfl)) : if Region.wanted o (yielded ops a.tmps) = true then Oper.wp Tryd.prog o a W K Q else K (a.put o.dst undef) W :=
  step_of_run hw hr (h _ _ (S.new (aBox W.heap.size 5 1 [.int .u8 (b.toNat : Int)]) ⟨⟨heap_alloc_new W _⟩, rfl⟩ (by simp [aBox]) (fun q hq => by rw [List.mem_singleton.1 hq]; exact Nat.le_refl _) ((Fr.refl W).alloc _)))
/-- It is read as a string. -/
theorem rgConv1 {b : UInt8} {g c : Nat} {x : Operand} (S : Sep F0 w0 L W) (hm : aBox g 5 1 [.int .u8 (b.toNat : Int)] ∈ L) (h : K (a.put o.dst (.string ⟨#[b]⟩)) W) (hw : Region.wanted o (yielded ops a.tmps) = true := by exact rfl) (ho : o.op = .convert 22 9 x := by exact rfl) (hx : a.eval x = .slice (some ⟨g, 0, none⟩) 1 c := by exact rfl) : if Region.wanted o (yielded ops a.tmps) = true then Oper.wp Tryd.prog o a W K Q else K (a.put o.dst undef) W := by
  have hc : (convert 22 9 (.slice (some ⟨g, 0, none⟩) 1 c)).run Tryd.prog W = .ok (.string ⟨#[b]⟩) W := by
    refine run_convert_bytes_back (P := Tryd.prog) _ _ _ 5 ⟨g, 0, none⟩ c [b] Tryd.underlying22 Tryd.underlying5 Tryd.underlying9 (fun j hj => ?_)
    obtain rfl : j = 0 := by simpa using hj
    rw [addr_add]
    exact (S.box hm).cells 0
  refine step_of_run hw ?_ h
  unfold execOp
  simp [ho, hx, Sem.run_bind, hc]
end
theorem l6Dec_two (w : World) (m : Nat) (h0 : 10 ≤ m) (h1 : m < 100) : Calls Tryd.prog 27 #[.int .i64 (m : Int)] w (Ret (.string ⟨(decS (m : Int)).toArray⟩) w) := by
  have d1 : decide ((m : Int) < -9223372036854775807) = false := decide_eq_false (by omega)
  have d2 : decide ((m : Int) < 0) = false := decide_eq_false (by omega)
  have d3 : decide ((m : Int) < 10) = false := decide_eq_false (by omega)
  have q0 : 0 ≤ (m : Int) / 10 := by omega
  have q1 : (m : Int) / 10 < 10 := by omega
  have f1 : IntKind.i64.wrap ((m : Int) / 10) = (m : Int) / 10 := IntWalk.i64_in _ (by omega)
  have f2 : (m : Int).tmod 10 = (m : Int) % 10 := Int.tmod_eq_emod_of_nonneg (by omega)
  have d4 : IntKind.i64.wrap (48 + (m : Int) % 10) = 48 + (m : Int) % 10 := IntWalk.i64_in _ (by omega)
  obtain ⟨b, hb, d5⟩ := dig_sign (m % 10) (by omega)
  rw [show ((m % 10 : Nat) : Int) = (m : Int) % 10 by omega] at d5
  have S := Sep.start w
  have E := Lib.hid (show (decS (m : Int)) = decS ((m : Int) / 10) ++ [b] by rw [decS_two (by omega) (by omega), decS_one q1, show ((m : Int) / 10).toNat = m / 10 by omega, Int.toNat_natCast, hb]; rfl)
  have L9 := Lib.hid (show (decS ((m : Int) / 10)).length + [b].length ≤ 1000000 by have := (decS_len (n := (m : Int) / 10) (by omega)).2; simp; omega)
  clear hb
  go_enter Tryd.func27, Tryd.ntmps27
  go_wp2
  have S0 := S
  refine wp_region_noPanic ?_
  refine wp_region_held_drew (S := Sep _ _ _) (by kernel_rfl) S0.drew (fun _ => ?_)
  replace S := S.drew
  clear S0
  refine tk 0 ?_
  (try simp only [Act.put, List.setIfInBounds_toArray, List.set_cons_zero, List.set_cons_succ])
  refine tk 1 ?_
  (try simp only [Act.put, List.setIfInBounds_toArray, List.set_cons_zero, List.set_cons_succ])
  refine tk 3 ?_
  (try simp only [Act.put, List.setIfInBounds_toArray, List.set_cons_zero, List.set_cons_succ])
  refine tk 4 ?_
  (try simp only [Act.put, List.setIfInBounds_toArray, List.set_cons_zero, List.set_cons_succ])
  refine tk 5 ?_
  (try simp only [Act.put, List.setIfInBounds_toArray, List.set_cons_zero, List.set_cons_succ])
  refine tk 6 ?_
  (try simp only [Act.put, List.setIfInBounds_toArray, List.set_cons_zero, List.set_cons_succ])
  refine rdys [2, 7] ?_
  refine rdc 2 (fun K hK => ?_) ?_
  · go_simp; (skip; go_at_call 27; (with_reducible refine (l6Dec_one _ ((m : Int) / 10) q0 q1).mono ?_); rintro e w9 ⟨rfl, f9⟩; replace S := S.fr f9; clear f9)
    (first | refine hK.out _ _ (S.sub subA) (fun _ => ?_) | (go_wp2_with fail; refine hK.out _ _ (S.sub subA) (fun _ => ?_)))
    clear hK K
    (try simp only [Act.put, List.setIfInBounds_toArray, List.set_cons_zero, List.set_cons_succ])
    refine rdy1 7 (fun K hK => ?_)
    refine rgByte b S ?_; clear S; intro g9 w9 S
    (first | refine hK.out _ _ (S.sub subA) (fun _ => ?_) | (go_wp2_with fail; refine hK.out _ _ (S.sub subA) (fun _ => ?_)))
    clear hK K
    (try simp only [Act.put, List.setIfInBounds_toArray, List.set_cons_zero, List.set_cons_succ])
    refine rdy1 8 (fun K hK => ?_)
    refine rgConv1 S memA ?_
    (first | refine hK.out _ _ (S.sub subA) (fun _ => ?_) | (go_wp2_with fail; refine hK.out _ _ (S.sub subA) (fun _ => ?_)))
    clear hK K
    (try simp only [Act.put, List.setIfInBounds_toArray, List.set_cons_zero, List.set_cons_succ])
    refine tk 9 ?_ (hy := by exact yAdd L9.out)
    (try simp only [Act.put, List.setIfInBounds_toArray, List.set_cons_zero, List.set_cons_succ])
    refine tk 10 ?_
    (try simp only [Act.put, List.setIfInBounds_toArray, List.set_cons_zero, List.set_cons_succ])
    refine wpAnyH_done (by kernel_rfl) ?_ _
    refine NoPanic.normal ?_
    go_wp2
    go_ret
    exact ⟨by rw [E.out]; rfl, S.frame⟩
  refine rdc 7 (fun K hK => ?_) AllReadyH.nil
  refine rgByte b S ?_; clear S; intro g9 w9 S
  (first | refine hK.out _ _ (S.sub subA) (fun _ => ?_) | (go_wp2_with fail; refine hK.out _ _ (S.sub subA) (fun _ => ?_)))
  clear hK K
  (try simp only [Act.put, List.setIfInBounds_toArray, List.set_cons_zero, List.set_cons_succ])
  refine rdys [2, 8] ?_
  refine rdc 2 (fun K hK => ?_) ?_
  · go_simp; (skip; go_at_call 27; (with_reducible refine (l6Dec_one _ ((m : Int) / 10) q0 q1).mono ?_); rintro e w9 ⟨rfl, f9⟩; replace S := S.fr f9; clear f9)
    (first | refine hK.out _ _ (S.sub subA) (fun _ => ?_) | (go_wp2_with fail; refine hK.out _ _ (S.sub subA) (fun _ => ?_)))
    clear hK K
    (try simp only [Act.put, List.setIfInBounds_toArray, List.set_cons_zero, List.set_cons_succ])
    refine rdy1 8 (fun K hK => ?_)
    refine rgConv1 S memA ?_
    (first | refine hK.out _ _ (S.sub subA) (fun _ => ?_) | (go_wp2_with fail; refine hK.out _ _ (S.sub subA) (fun _ => ?_)))
    clear hK K
    (try simp only [Act.put, List.setIfInBounds_toArray, List.set_cons_zero, List.set_cons_succ])
    refine tk 9 ?_ (hy := by exact yAdd L9.out)
    (try simp only [Act.put, List.setIfInBounds_toArray, List.set_cons_zero, List.set_cons_succ])
    refine tk 10 ?_
    (try simp only [Act.put, List.setIfInBounds_toArray, List.set_cons_zero, List.set_cons_succ])
    refine wpAnyH_done (by kernel_rfl) ?_ _
    refine NoPanic.normal ?_
    go_wp2
    go_ret
    exact ⟨by rw [E.out]; rfl, S.frame⟩
  refine rdc 8 (fun K hK => ?_) AllReadyH.nil
  refine rgConv1 S memA ?_
  (first | refine hK.out _ _ (S.sub subA) (fun _ => ?_) | (go_wp2_with fail; refine hK.out _ _ (S.sub subA) (fun _ => ?_)))
  clear hK K
  (try simp only [Act.put, List.setIfInBounds_toArray, List.set_cons_zero, List.set_cons_succ])
  refine rdy1 2 (fun K hK => ?_)
  go_simp; (skip; go_at_call 27; (with_reducible refine (l6Dec_one _ ((m : Int) / 10) q0 q1).mono ?_); rintro e w9 ⟨rfl, f9⟩; replace S := S.fr f9; clear f9)
  (first | refine hK.out _ _ (S.sub subA) (fun _ => ?_) | (go_wp2_with fail; refine hK.out _ _ (S.sub subA) (fun _ => ?_)))
  clear hK K
  (try simp only [Act.put, List.setIfInBounds_toArray, List.set_cons_zero, List.set_cons_succ])
  refine tk 9 ?_ (hy := by exact yAdd L9.out)
  (try simp only [Act.put, List.setIfInBounds_toArray, List.set_cons_zero, List.set_cons_succ])
  refine tk 10 ?_
  (try simp only [Act.put, List.setIfInBounds_toArray, List.set_cons_zero, List.set_cons_succ])
  refine wpAnyH_done (by kernel_rfl) ?_ _
  refine NoPanic.normal ?_
  go_wp2
  go_ret
  exact ⟨by rw [E.out]; rfl, S.frame⟩
end Go.Proofs.YtphojlkljlnfjaaDoor
