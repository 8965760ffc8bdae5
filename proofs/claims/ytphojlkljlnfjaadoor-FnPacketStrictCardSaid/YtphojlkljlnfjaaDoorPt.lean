/- A packet's text: the program's and the reference's. -/
import Derived.Test.YtphojlkljlnfjaaDoorDec
namespace Go.Proofs.YtphojlkljlnfjaaDoor
set_option maxRecDepth 100000
set_option linter.unusedVariables false
set_option linter.unusedSimpArgs false
open Go.RowKit
theorem l6Dec_c (w : World) (n : Int) (h : 0 ≤ n ∧ n < 100) : Calls Tryd.prog 27 #[.int .i64 n] w (Ret (.string ⟨(decS n).toArray⟩) w) := by
  by_cases h1 : n < 10
  · exact l6Dec_one w n h.1 h1
  · obtain ⟨m, rfl⟩ : ∃ m : Nat, n = (m : Int) := ⟨n.toNat, by omega⟩
    exact l6Dec_two w m (by omega) (by omega)
theorem Itoa_c (w : World) (n : Int) (h : 0 ≤ n ∧ n < 100) : Calls Tryd.prog 24 #[.int .i64 n] w fun e w' => e = .returned (.string ⟨(decS n).toArray⟩) ∧ w' = w := by
  obtain ⟨m, rfl⟩ : ∃ m : Nat, n = (m : Int) := ⟨n.toNat, by omega⟩
  exact Tryd.strconv_Itoa_small m (by omega) w
theorem PacketOk_r (w : World) (p : Pk) {r : Bool} (h : okPk p = r) : Calls Tryd.prog 16 #[.agg #[.int .i64 p.seq, .int .i64 p.kind, .int .i64 p.frm, .int .i64 p.dst, .int .i64 p.sum, .int .i64 p.til, .int .i64 p.ver]] w (Ret (.bool r) w) := h ▸ PacketOk_c w p
theorem sPacketOk_r (w : World) (p : Pk) {r : Bool} (h : okPk p = r) : Calls Tryd.prog 26 #[.agg #[.int .i64 p.seq, .int .i64 p.kind, .int .i64 p.frm, .int .i64 p.dst, .int .i64 p.sum, .int .i64 p.til, .int .i64 p.ver]] w (Ret (.bool r) w) := h ▸ sPacketOk_c w p
section
variable {ops : Array Oper} {o : Oper} {a : Act} {S : World → Prop}
theorem yAddE {l1 l2 l3 : List UInt8} {t t2 : TypeId} {x y : Operand} (he : l1 ++ l2 = l3) (hl : l1.length + l2.length ≤ 1000000) (hw : Region.wanted o (yielded ops a.tmps) = true := by exact rfl) (ho : o.op = .binOp .add t x y t2 := by exact rfl) (hx : a.eval x = .string ⟨l1.toArray⟩ := by exact rfl) (hy : a.eval y = .string ⟨l2.toArray⟩ := by exact rfl) : YieldsIf Tryd.prog ops S o (.string ⟨l3.toArray⟩) a := he ▸ yAdd hl hw ho hx hy
end
set_option maxHeartbeats 3200000 in
theorem sPacketText_c (w : World) (p : Pk) : Calls Tryd.prog 11 #[.agg #[.int .i64 p.seq, .int .i64 p.kind, .int .i64 p.frm, .int .i64 p.dst, .int .i64 p.sum, .int .i64 p.til, .int .i64 p.ver]] w (Ret (.string ⟨(txtV p).toArray⟩) w) := by
  obtain ⟨sq, kd, fr, ds, sm, tl, vr⟩ := p
  dsimp only
  have S := Sep.start w
  cases o1 : okPk ⟨sq, kd, fr, ds, sm, tl, vr⟩ with
  | false =>
    have E := Lib.hid (show txtV ⟨sq, kd, fr, ds, sm, tl, vr⟩ = [] by unfold txtV; rw [o1]; rfl)
    have O1 := Lib.hid o1
    clear o1
    go_enter Tryd.func11, Tryd.ntmps11
    go_wp2_with (first | (go_at_call 26; (with_reducible refine (sPacketOk_r _ ⟨sq, kd, fr, ds, sm, tl, vr⟩ O1.out).mono ?_); rintro e w9 ⟨rfl, f9⟩; replace S := S.fr f9; clear f9) | ((with_reducible refine gate_box rfl ?_); refine aBx S ?_; clear S; intro g9 w9 z9 S) | ((with_reducible refine gate_alloc rfl ?_); refine aAl S ?_; clear S; intro g9 w9 z9 S) | ((with_reducible refine gate_load rfl ?_); first | refine aLd S ?_ | refine aPt S ?_ | refine aL1 S ?_) | ((with_reducible refine gate_st rfl ?_); (first | refine aS1 S ?_ | refine aSt S ?_ | refine aSp S ?_); clear S; intro w9 S))
    go_ret
    exact ⟨by rw [E.out]; rfl, S.frame⟩
  | true =>
    have E := Lib.hid (show txtV ⟨sq, kd, fr, ds, sm, tl, vr⟩ = decS sq ++ 32 :: (decS kd ++ 32 :: (decS fr ++ 32 :: (decS ds ++ 32 :: (decS sm ++ 32 :: (decS tl ++ 32 :: decS vr))))) by unfold txtV; rw [o1, if_pos rfl]; unfold txt; simp only [List.append_assoc, List.cons_append, List.nil_append])
    have O1 := Lib.hid o1
    have sp := okPk_small o1
    have Bsq := Lib.hid (show 0 ≤ sq ∧ sq < 100 from sp.seq)
    have Lsq := (decS_len (n := sq) sp.seq.2).2
    have Bkd := Lib.hid (show 0 ≤ kd ∧ kd < 100 from sp.kind)
    have Lkd := (decS_len (n := kd) sp.kind.2).2
    have Bfr := Lib.hid (show 0 ≤ fr ∧ fr < 100 from sp.frm)
    have Lfr := (decS_len (n := fr) sp.frm.2).2
    have Bds := Lib.hid (show 0 ≤ ds ∧ ds < 100 from sp.dst)
    have Lds := (decS_len (n := ds) sp.dst.2).2
    have Bsm := Lib.hid (show 0 ≤ sm ∧ sm < 100 from sp.sum)
    have Lsm := (decS_len (n := sm) sp.sum.2).2
    have Btl := Lib.hid (show 0 ≤ tl ∧ tl < 100 from sp.til)
    have Ltl := (decS_len (n := tl) sp.til.2).2
    have Bvr := Lib.hid (show 0 ≤ vr ∧ vr < 100 from sp.ver)
    have Lvr := (decS_len (n := vr) sp.ver.2).2
    clear o1 sp
    go_enter Tryd.func11, Tryd.ntmps11
    go_wp2_with (first | (go_at_call 26; (with_reducible refine (sPacketOk_r _ ⟨sq, kd, fr, ds, sm, tl, vr⟩ O1.out).mono ?_); rintro e w9 ⟨rfl, f9⟩; replace S := S.fr f9; clear f9) | ((with_reducible refine gate_box rfl ?_); refine aBx S ?_; clear S; intro g9 w9 z9 S) | ((with_reducible refine gate_alloc rfl ?_); refine aAl S ?_; clear S; intro g9 w9 z9 S) | ((with_reducible refine gate_load rfl ?_); first | refine aLd S ?_ | refine aPt S ?_ | refine aL1 S ?_) | ((with_reducible refine gate_st rfl ?_); (first | refine aS1 S ?_ | refine aSt S ?_ | refine aSp S ?_); clear S; intro w9 S))
    have S0 := S
    refine wp_region_noPanic ?_
    refine wp_region_held_drew (S := Sep _ _ _) (by kernel_rfl) S0.drew (fun _ => ?_)
    replace S := S.drew
    clear S0
    refine tk 0 ?_
    (try simp only [Act.put, List.setIfInBounds_toArray, List.set_cons_zero, List.set_cons_succ])
    refine tk 1 ?_
    (try simp only [Act.put, List.setIfInBounds_toArray, List.set_cons_zero, List.set_cons_succ])
    refine tk 4 ?_
    (try simp only [Act.put, List.setIfInBounds_toArray, List.set_cons_zero, List.set_cons_succ])
    refine tk 5 ?_
    (try simp only [Act.put, List.setIfInBounds_toArray, List.set_cons_zero, List.set_cons_succ])
    refine tk 9 ?_
    (try simp only [Act.put, List.setIfInBounds_toArray, List.set_cons_zero, List.set_cons_succ])
    refine tk 10 ?_
    (try simp only [Act.put, List.setIfInBounds_toArray, List.set_cons_zero, List.set_cons_succ])
    refine tk 14 ?_
    (try simp only [Act.put, List.setIfInBounds_toArray, List.set_cons_zero, List.set_cons_succ])
    refine tk 15 ?_
    (try simp only [Act.put, List.setIfInBounds_toArray, List.set_cons_zero, List.set_cons_succ])
    refine tk 19 ?_
    (try simp only [Act.put, List.setIfInBounds_toArray, List.set_cons_zero, List.set_cons_succ])
    refine tk 20 ?_
    (try simp only [Act.put, List.setIfInBounds_toArray, List.set_cons_zero, List.set_cons_succ])
    refine tk 24 ?_
    (try simp only [Act.put, List.setIfInBounds_toArray, List.set_cons_zero, List.set_cons_succ])
    refine tk 25 ?_
    (try simp only [Act.put, List.setIfInBounds_toArray, List.set_cons_zero, List.set_cons_succ])
    refine tk 29 ?_
    (try simp only [Act.put, List.setIfInBounds_toArray, List.set_cons_zero, List.set_cons_succ])
    refine tk 30 ?_
    (try simp only [Act.put, List.setIfInBounds_toArray, List.set_cons_zero, List.set_cons_succ])
    refine rdy1 2 (fun K hK => ?_)
    go_simp; (skip; go_at_call 27; (with_reducible refine (l6Dec_c _ sq Bsq.out).mono ?_); rintro e w9 ⟨rfl, f9⟩; replace S := S.fr f9; clear f9)
    (first | refine hK.out _ _ (S.sub subA) (fun _ => ?_) | (go_wp2_with fail; refine hK.out _ _ (S.sub subA) (fun _ => ?_)))
    clear hK K
    (try simp only [Act.put, List.setIfInBounds_toArray, List.set_cons_zero, List.set_cons_succ])
    refine tk 3 ?_ (hy := by exact yAddE (l1 := decS sq) (l2 := [32]) (l3 := decS sq ++ [32]) (by simp only [List.append_assoc, List.cons_append, List.nil_append]) (by simp only [List.length_append, List.length_cons, List.length_nil]; omega))
    (try simp only [Act.put, List.setIfInBounds_toArray, List.set_cons_zero, List.set_cons_succ])
    refine rdy1 6 (fun K hK => ?_)
    go_simp; (skip; go_at_call 27; (with_reducible refine (l6Dec_c _ kd Bkd.out).mono ?_); rintro e w9 ⟨rfl, f9⟩; replace S := S.fr f9; clear f9)
    (first | refine hK.out _ _ (S.sub subA) (fun _ => ?_) | (go_wp2_with fail; refine hK.out _ _ (S.sub subA) (fun _ => ?_)))
    clear hK K
    (try simp only [Act.put, List.setIfInBounds_toArray, List.set_cons_zero, List.set_cons_succ])
    refine tk 7 ?_ (hy := by exact yAddE (l1 := decS sq ++ [32]) (l2 := decS kd) (l3 := decS sq ++ 32 :: decS kd) (by simp only [List.append_assoc, List.cons_append, List.nil_append]) (by simp only [List.length_append, List.length_cons, List.length_nil]; omega))
    (try simp only [Act.put, List.setIfInBounds_toArray, List.set_cons_zero, List.set_cons_succ])
    refine tk 8 ?_ (hy := by exact yAddE (l1 := decS sq ++ 32 :: decS kd) (l2 := [32]) (l3 := decS sq ++ 32 :: (decS kd ++ [32])) (by simp only [List.append_assoc, List.cons_append, List.nil_append]) (by simp only [List.length_append, List.length_cons, List.length_nil]; omega))
    (try simp only [Act.put, List.setIfInBounds_toArray, List.set_cons_zero, List.set_cons_succ])
    refine rdy1 11 (fun K hK => ?_)
    go_simp; (skip; go_at_call 27; (with_reducible refine (l6Dec_c _ fr Bfr.out).mono ?_); rintro e w9 ⟨rfl, f9⟩; replace S := S.fr f9; clear f9)
    (first | refine hK.out _ _ (S.sub subA) (fun _ => ?_) | (go_wp2_with fail; refine hK.out _ _ (S.sub subA) (fun _ => ?_)))
    clear hK K
    (try simp only [Act.put, List.setIfInBounds_toArray, List.set_cons_zero, List.set_cons_succ])
    refine tk 12 ?_ (hy := by exact yAddE (l1 := decS sq ++ 32 :: (decS kd ++ [32])) (l2 := decS fr) (l3 := decS sq ++ 32 :: (decS kd ++ 32 :: decS fr)) (by simp only [List.append_assoc, List.cons_append, List.nil_append]) (by simp only [List.length_append, List.length_cons, List.length_nil]; omega))
    (try simp only [Act.put, List.setIfInBounds_toArray, List.set_cons_zero, List.set_cons_succ])
    refine tk 13 ?_ (hy := by exact yAddE (l1 := decS sq ++ 32 :: (decS kd ++ 32 :: decS fr)) (l2 := [32]) (l3 := decS sq ++ 32 :: (decS kd ++ 32 :: (decS fr ++ [32]))) (by simp only [List.append_assoc, List.cons_append, List.nil_append]) (by simp only [List.length_append, List.length_cons, List.length_nil]; omega))
    (try simp only [Act.put, List.setIfInBounds_toArray, List.set_cons_zero, List.set_cons_succ])
    refine rdy1 16 (fun K hK => ?_)
    go_simp; (skip; go_at_call 27; (with_reducible refine (l6Dec_c _ ds Bds.out).mono ?_); rintro e w9 ⟨rfl, f9⟩; replace S := S.fr f9; clear f9)
    (first | refine hK.out _ _ (S.sub subA) (fun _ => ?_) | (go_wp2_with fail; refine hK.out _ _ (S.sub subA) (fun _ => ?_)))
    clear hK K
    (try simp only [Act.put, List.setIfInBounds_toArray, List.set_cons_zero, List.set_cons_succ])
    refine tk 17 ?_ (hy := by exact yAddE (l1 := decS sq ++ 32 :: (decS kd ++ 32 :: (decS fr ++ [32]))) (l2 := decS ds) (l3 := decS sq ++ 32 :: (decS kd ++ 32 :: (decS fr ++ 32 :: decS ds))) (by simp only [List.append_assoc, List.cons_append, List.nil_append]) (by simp only [List.length_append, List.length_cons, List.length_nil]; omega))
    (try simp only [Act.put, List.setIfInBounds_toArray, List.set_cons_zero, List.set_cons_succ])
    refine tk 18 ?_ (hy := by exact yAddE (l1 := decS sq ++ 32 :: (decS kd ++ 32 :: (decS fr ++ 32 :: decS ds))) (l2 := [32]) (l3 := decS sq ++ 32 :: (decS kd ++ 32 :: (decS fr ++ 32 :: (decS ds ++ [32])))) (by simp only [List.append_assoc, List.cons_append, List.nil_append]) (by simp only [List.length_append, List.length_cons, List.length_nil]; omega))
    (try simp only [Act.put, List.setIfInBounds_toArray, List.set_cons_zero, List.set_cons_succ])
    refine rdy1 21 (fun K hK => ?_)
    go_simp; (skip; go_at_call 27; (with_reducible refine (l6Dec_c _ sm Bsm.out).mono ?_); rintro e w9 ⟨rfl, f9⟩; replace S := S.fr f9; clear f9)
    (first | refine hK.out _ _ (S.sub subA) (fun _ => ?_) | (go_wp2_with fail; refine hK.out _ _ (S.sub subA) (fun _ => ?_)))
    clear hK K
    (try simp only [Act.put, List.setIfInBounds_toArray, List.set_cons_zero, List.set_cons_succ])
    refine tk 22 ?_ (hy := by exact yAddE (l1 := decS sq ++ 32 :: (decS kd ++ 32 :: (decS fr ++ 32 :: (decS ds ++ [32])))) (l2 := decS sm) (l3 := decS sq ++ 32 :: (decS kd ++ 32 :: (decS fr ++ 32 :: (decS ds ++ 32 :: decS sm)))) (by simp only [List.append_assoc, List.cons_append, List.nil_append]) (by simp only [List.length_append, List.length_cons, List.length_nil]; omega))
    (try simp only [Act.put, List.setIfInBounds_toArray, List.set_cons_zero, List.set_cons_succ])
    refine tk 23 ?_ (hy := by exact yAddE (l1 := decS sq ++ 32 :: (decS kd ++ 32 :: (decS fr ++ 32 :: (decS ds ++ 32 :: decS sm)))) (l2 := [32]) (l3 := decS sq ++ 32 :: (decS kd ++ 32 :: (decS fr ++ 32 :: (decS ds ++ 32 :: (decS sm ++ [32]))))) (by simp only [List.append_assoc, List.cons_append, List.nil_append]) (by simp only [List.length_append, List.length_cons, List.length_nil]; omega))
    (try simp only [Act.put, List.setIfInBounds_toArray, List.set_cons_zero, List.set_cons_succ])
    refine rdy1 26 (fun K hK => ?_)
    go_simp; (skip; go_at_call 27; (with_reducible refine (l6Dec_c _ tl Btl.out).mono ?_); rintro e w9 ⟨rfl, f9⟩; replace S := S.fr f9; clear f9)
    (first | refine hK.out _ _ (S.sub subA) (fun _ => ?_) | (go_wp2_with fail; refine hK.out _ _ (S.sub subA) (fun _ => ?_)))
    clear hK K
    (try simp only [Act.put, List.setIfInBounds_toArray, List.set_cons_zero, List.set_cons_succ])
    refine tk 27 ?_ (hy := by exact yAddE (l1 := decS sq ++ 32 :: (decS kd ++ 32 :: (decS fr ++ 32 :: (decS ds ++ 32 :: (decS sm ++ [32]))))) (l2 := decS tl) (l3 := decS sq ++ 32 :: (decS kd ++ 32 :: (decS fr ++ 32 :: (decS ds ++ 32 :: (decS sm ++ 32 :: decS tl))))) (by simp only [List.append_assoc, List.cons_append, List.nil_append]) (by simp only [List.length_append, List.length_cons, List.length_nil]; omega))
    (try simp only [Act.put, List.setIfInBounds_toArray, List.set_cons_zero, List.set_cons_succ])
    refine tk 28 ?_ (hy := by exact yAddE (l1 := decS sq ++ 32 :: (decS kd ++ 32 :: (decS fr ++ 32 :: (decS ds ++ 32 :: (decS sm ++ 32 :: decS tl))))) (l2 := [32]) (l3 := decS sq ++ 32 :: (decS kd ++ 32 :: (decS fr ++ 32 :: (decS ds ++ 32 :: (decS sm ++ 32 :: (decS tl ++ [32])))))) (by simp only [List.append_assoc, List.cons_append, List.nil_append]) (by simp only [List.length_append, List.length_cons, List.length_nil]; omega))
    (try simp only [Act.put, List.setIfInBounds_toArray, List.set_cons_zero, List.set_cons_succ])
    refine rdy1 31 (fun K hK => ?_)
    go_simp; (skip; go_at_call 27; (with_reducible refine (l6Dec_c _ vr Bvr.out).mono ?_); rintro e w9 ⟨rfl, f9⟩; replace S := S.fr f9; clear f9)
    (first | refine hK.out _ _ (S.sub subA) (fun _ => ?_) | (go_wp2_with fail; refine hK.out _ _ (S.sub subA) (fun _ => ?_)))
    clear hK K
    (try simp only [Act.put, List.setIfInBounds_toArray, List.set_cons_zero, List.set_cons_succ])
    refine tk 32 ?_ (hy := by exact yAddE (l1 := decS sq ++ 32 :: (decS kd ++ 32 :: (decS fr ++ 32 :: (decS ds ++ 32 :: (decS sm ++ 32 :: (decS tl ++ [32])))))) (l2 := decS vr) (l3 := decS sq ++ 32 :: (decS kd ++ 32 :: (decS fr ++ 32 :: (decS ds ++ 32 :: (decS sm ++ 32 :: (decS tl ++ 32 :: decS vr)))))) (by simp only [List.append_assoc, List.cons_append, List.nil_append]) (by simp only [List.length_append, List.length_cons, List.length_nil]; omega))
    (try simp only [Act.put, List.setIfInBounds_toArray, List.set_cons_zero, List.set_cons_succ])
    refine tk 33 ?_
    (try simp only [Act.put, List.setIfInBounds_toArray, List.set_cons_zero, List.set_cons_succ])
    refine wpAnyH_done (by kernel_rfl) ?_ _
    refine NoPanic.normal ?_
    go_wp2
    go_ret
    exact ⟨by rw [E.out]; rfl, S.frame⟩
set_option maxHeartbeats 3200000 in
theorem fields_c (w : World) (p : Pk) : Calls Tryd.prog 21 #[.agg #[.int .i64 p.seq, .int .i64 p.kind, .int .i64 p.frm, .int .i64 p.dst, .int .i64 p.sum, .int .i64 p.til, .int .i64 p.ver]] w (Ret (.agg #[.int .i64 p.seq, .int .i64 p.kind, .int .i64 p.frm, .int .i64 p.dst, .int .i64 p.sum, .int .i64 p.til, .int .i64 p.ver]) w) := by
  have S := Sep.start w
  go_enter Tryd.func21, Tryd.ntmps21
  go_wp2_with (first | ((with_reducible refine gate_box rfl ?_); refine aBx S ?_; clear S; intro g9 w9 z9 S) | ((with_reducible refine gate_alloc rfl ?_); refine aAl S ?_; clear S; intro g9 w9 z9 S) | ((with_reducible refine gate_load rfl ?_); first | refine aLd S ?_ | refine aPt S ?_ | refine aL1 S ?_) | ((with_reducible refine gate_st rfl ?_); (first | refine aS1 S ?_ | refine aSt S ?_ | refine aSp S ?_); clear S; intro w9 S))
  (refine Sep.ret1 S rfl rfl memA Tryd.underlying44 rfl ts44 rfl ?_)
  exact ⟨rfl, S.frame⟩
theorem Fr.bel {a b c : World} {B : Nat} (f : Fr a b) (h : Below B b c) (hB : a.heap.size ≤ B) : Fr a c :=
  ⟨h.os.trans f.os, h.tape.trans f.tape, h.output.trans f.output, Nat.le_trans f.size h.size, fun k hk _ => (h.block k (by omega)).trans (f.block k hk (by simp))⟩
theorem BldIs.fr {b : Nat} {l : List UInt8} {w w' : World} (h : BldIs b l w) (f : Fr w w') : BldIs b l w' := by
  have key : ∀ p, Lib.BuilderAtF 43 5 b b p (Lib.byteCells l) w → Lib.BuilderAtF 43 5 b b p (Lib.byteCells l) w' := by
    rintro p ⟨h1, v, h2, ⟨h3, h4⟩, h5⟩
    refine ⟨h1, v, f.heap h2, ⟨h3, ?_⟩, h5⟩
    rcases h4 with h4 | ⟨g, cap, cur, fz, e1, e2, e3, e4⟩
    · exact .inl h4
    · exact .inr ⟨g, cap, cur, fz, e1, e2, f.heap e3, e4⟩
  exact h.elim (fun x => .inl (key _ x)) (fun x => .inr (key _ x))
theorem WriteBlank_c (b : Nat) (l : List UInt8) (w : World) (h : BldIs b l w) (hl : l.length ≤ 1000000) :
    Calls Tryd.prog 22 #[.pointer (some ⟨b, 0, none⟩), .int .u8 32] w fun e w' => e = .returned .nilIface ∧ BldIs b (l ++ [32]) w' ∧ Below b w w' := WriteByte_c b l 32 w h hl
theorem BldIs.size {b : Nat} {l : List UInt8} {w : World} (h : BldIs b l w) : b < w.heap.size := by rcases h with h | h <;> exact h.lt
theorem String_c (b : Nat) (l : List UInt8) (w : World) (h : BldIs b l w) : Calls Tryd.prog 25 #[.pointer (some ⟨b, 0, none⟩)] w fun e w' => e = .returned (.string ⟨l.toArray⟩) ∧ Below b w w' :=
  (Tryd.Builder_String_any_k b b l w h (Nat.le_of_lt h.size)).mono fun _ _ ⟨h1, _, h3, _⟩ => ⟨h1, h3⟩
section
variable {ops : Array Oper} {rest : List Oper} {o : Oper} {a : Act} {Q : Exit → Act → World → Prop} {W : World}
/-- A builder is begun. -/
theorem aBld (h : ∀ g w1, BldIs g [] w1 → Fr W w1 → W.heap.size ≤ g → wpList Tryd.prog ops Q rest (a.put o.dst (.pointer (some ⟨g, 0, none⟩))) w1) (hg : o.guard = none := by exact rfl) (ho : o.op = .alloc 43 := by exact rfl) : wpList Tryd.prog ops Q (o :: rest) a W := by
  refine wpList_plain hg fun K hK => ?_
  obtain ⟨z, h1, h2⟩ := (inferInstance : TyZero 43 _).z W
  have hk := hK _ _ (h W.heap.size (W.alloc (.cells #[.pointer none, .slice none 0 0] 43)) (BldIs.fresh W) ((Fr.refl W).alloc _) (Nat.le_refl _))
  unfold Oper.wp execOp
  rw [ho]
  simp only [Instr.alloc, Sem.run_bind, h1, Result.andThen_ok, newVar, h2]
  go_simp
  exact hk
end
@[go_sem] theorem idxF0 (a0 a1 a2 a3 a4 a5 a6 : Int) (w : World) : (Instr.index 44 (.agg #[.int .i64 a0, .int .i64 a1, .int .i64 a2, .int .i64 a3, .int .i64 a4, .int .i64 a5, .int .i64 a6]) (.int .i64 0)).run Tryd.prog w = .ok (.int .i64 a0) w := by kernel_rfl
@[go_sem] theorem idxF1 (a0 a1 a2 a3 a4 a5 a6 : Int) (w : World) : (Instr.index 44 (.agg #[.int .i64 a0, .int .i64 a1, .int .i64 a2, .int .i64 a3, .int .i64 a4, .int .i64 a5, .int .i64 a6]) (.int .i64 1)).run Tryd.prog w = .ok (.int .i64 a1) w := by kernel_rfl
@[go_sem] theorem idxF2 (a0 a1 a2 a3 a4 a5 a6 : Int) (w : World) : (Instr.index 44 (.agg #[.int .i64 a0, .int .i64 a1, .int .i64 a2, .int .i64 a3, .int .i64 a4, .int .i64 a5, .int .i64 a6]) (.int .i64 2)).run Tryd.prog w = .ok (.int .i64 a2) w := by kernel_rfl
@[go_sem] theorem idxF3 (a0 a1 a2 a3 a4 a5 a6 : Int) (w : World) : (Instr.index 44 (.agg #[.int .i64 a0, .int .i64 a1, .int .i64 a2, .int .i64 a3, .int .i64 a4, .int .i64 a5, .int .i64 a6]) (.int .i64 3)).run Tryd.prog w = .ok (.int .i64 a3) w := by kernel_rfl
@[go_sem] theorem idxF4 (a0 a1 a2 a3 a4 a5 a6 : Int) (w : World) : (Instr.index 44 (.agg #[.int .i64 a0, .int .i64 a1, .int .i64 a2, .int .i64 a3, .int .i64 a4, .int .i64 a5, .int .i64 a6]) (.int .i64 4)).run Tryd.prog w = .ok (.int .i64 a4) w := by kernel_rfl
@[go_sem] theorem idxF5 (a0 a1 a2 a3 a4 a5 a6 : Int) (w : World) : (Instr.index 44 (.agg #[.int .i64 a0, .int .i64 a1, .int .i64 a2, .int .i64 a3, .int .i64 a4, .int .i64 a5, .int .i64 a6]) (.int .i64 5)).run Tryd.prog w = .ok (.int .i64 a5) w := by kernel_rfl
@[go_sem] theorem idxF6 (a0 a1 a2 a3 a4 a5 a6 : Int) (w : World) : (Instr.index 44 (.agg #[.int .i64 a0, .int .i64 a1, .int .i64 a2, .int .i64 a3, .int .i64 a4, .int .i64 a5, .int .i64 a6]) (.int .i64 6)).run Tryd.prog w = .ok (.int .i64 a6) w := by kernel_rfl
set_option maxHeartbeats 6400000 in
theorem PacketText_c (w : World) (p : Pk) : Calls Tryd.prog 10 #[.agg #[.int .i64 p.seq, .int .i64 p.kind, .int .i64 p.frm, .int .i64 p.dst, .int .i64 p.sum, .int .i64 p.til, .int .i64 p.ver]] w (Ret (.string ⟨(txtV p).toArray⟩) w) := by
  obtain ⟨sq, kd, fr, ds, sm, tl, vr⟩ := p
  dsimp only
  have S := Sep.start w
  cases o1 : okPk ⟨sq, kd, fr, ds, sm, tl, vr⟩ with
  | false =>
    have E := Lib.hid (show txtV ⟨sq, kd, fr, ds, sm, tl, vr⟩ = [] by unfold txtV; rw [o1]; rfl)
    have O1 := Lib.hid o1
    clear o1
    go_enter Tryd.func10, Tryd.ntmps10
    go_wp2_with (first | (go_at_call 16; (with_reducible refine (PacketOk_r _ ⟨sq, kd, fr, ds, sm, tl, vr⟩ O1.out).mono ?_); rintro e w9 ⟨rfl, f9⟩; replace S := S.fr f9; clear f9) | ((with_reducible refine gate_box rfl ?_); refine aBx S ?_; clear S; intro g9 w9 z9 S) | ((with_reducible refine gate_alloc rfl ?_); refine aAl S ?_; clear S; intro g9 w9 z9 S) | ((with_reducible refine gate_load rfl ?_); first | refine aLd S ?_ | refine aPt S ?_ | refine aL1 S ?_) | ((with_reducible refine gate_st rfl ?_); (first | refine aS1 S ?_ | refine aSt S ?_ | refine aSp S ?_); clear S; intro w9 S))
    go_ret
    exact ⟨by rw [E.out]; rfl, S.frame⟩
  | true =>
    have E := Lib.hid (show txtV ⟨sq, kd, fr, ds, sm, tl, vr⟩ = decS sq ++ 32 :: (decS kd ++ 32 :: (decS fr ++ 32 :: (decS ds ++ 32 :: (decS sm ++ 32 :: (decS tl ++ 32 :: decS vr))))) by unfold txtV; rw [o1, if_pos rfl]; unfold txt; simp only [List.append_assoc, List.cons_append, List.nil_append])
    have O1 := Lib.hid o1
    have sp := okPk_small o1
    have Bsq := Lib.hid (show 0 ≤ sq ∧ sq < 100 from sp.seq)
    have Lsq := (decS_len (n := sq) sp.seq.2).2
    have Bkd := Lib.hid (show 0 ≤ kd ∧ kd < 100 from sp.kind)
    have Lkd := (decS_len (n := kd) sp.kind.2).2
    have Bfr := Lib.hid (show 0 ≤ fr ∧ fr < 100 from sp.frm)
    have Lfr := (decS_len (n := fr) sp.frm.2).2
    have Bds := Lib.hid (show 0 ≤ ds ∧ ds < 100 from sp.dst)
    have Lds := (decS_len (n := ds) sp.dst.2).2
    have Bsm := Lib.hid (show 0 ≤ sm ∧ sm < 100 from sp.sum)
    have Lsm := (decS_len (n := sm) sp.sum.2).2
    have Btl := Lib.hid (show 0 ≤ tl ∧ tl < 100 from sp.til)
    have Ltl := (decS_len (n := tl) sp.til.2).2
    have Bvr := Lib.hid (show 0 ≤ vr ∧ vr < 100 from sp.ver)
    have Lvr := (decS_len (n := vr) sp.ver.2).2
    clear o1 sp
    have w1 : IntKind.i64.wrap 1 = 1 := by decide
    have w2 : IntKind.i64.wrap 2 = 2 := by decide
    have w3 : IntKind.i64.wrap 3 = 3 := by decide
    have w4 : IntKind.i64.wrap 4 = 4 := by decide
    have w5 : IntKind.i64.wrap 5 = 5 := by decide
    have w6 : IntKind.i64.wrap 6 = 6 := by decide
    have w7 : IntKind.i64.wrap 7 = 7 := by decide
    go_enter Tryd.func10, Tryd.ntmps10
    go_wp2_with (first
      | ((with_reducible refine gate_dst (N := 3) rfl ?_); go_loud (refine aBld ?_); intro g w9 B9 f9 hg; have hg2 := S.frame.size; have f := S.frame.trans f9; replace S := S.fr f9; replace hg : w.heap.size ≤ g := (by omega); clear hg2 f9)
      | (go_at_call 16; (with_reducible refine (PacketOk_r _ ⟨sq, kd, fr, ds, sm, tl, vr⟩ O1.out).mono ?_); rintro e w9 ⟨rfl, f9⟩; replace S := S.fr f9; clear f9)
      | (go_at_call 21; (with_reducible refine (fields_c _ ⟨sq, kd, fr, ds, sm, tl, vr⟩).mono ?_); rintro e w9 ⟨rfl, f9⟩; replace B9 := B9.fr f9; replace f := f.trans f9; clear f9 S)
      | ((with_reducible refine gate_box rfl ?_); refine aBx S ?_; clear S; intro g9 w9 z9 S) | ((with_reducible refine gate_alloc rfl ?_); refine aAl S ?_; clear S; intro g9 w9 z9 S) | ((with_reducible refine gate_load rfl ?_); first | refine aLd S ?_ | refine aPt S ?_ | refine aL1 S ?_) | ((with_reducible refine gate_st rfl ?_); (first | refine aS1 S ?_ | refine aSt S ?_ | refine aSp S ?_); clear S; intro w9 S))
    refine wp_loop_rounds 8 ?_
    rw [rounds_succ]
    go_wp2_with (first
      | (go_at_call 24; (with_reducible refine (Itoa_c _ sq Bsq.out).mono ?_); rintro e w9 ⟨rfl, rfl⟩)
      | (go_at_call 23; go_loud ((with_reducible refine (WriteString_c g _ (decS sq) _ B9 (by simp only [List.length_append, List.length_cons, List.length_nil]; omega) (by omega)).mono ?_); rintro e w9 ⟨rfl, C9, b9⟩; replace B9 := C9; clear C9; replace f := f.bel b9 hg; clear b9)))
    rw [rounds_succ]
    go_wp2_with (first
      | (go_at_call 22; go_loud ((with_reducible refine (WriteBlank_c g _ _ B9 (by simp only [List.length_append, List.length_cons, List.length_nil]; omega)).mono ?_); rintro e w9 ⟨rfl, C9, b9⟩; replace B9 := C9; clear C9; replace f := f.bel b9 hg; clear b9))
      | (go_at_call 24; (with_reducible refine (Itoa_c _ kd Bkd.out).mono ?_); rintro e w9 ⟨rfl, rfl⟩)
      | (go_at_call 23; go_loud ((with_reducible refine (WriteString_c g _ (decS kd) _ B9 (by simp only [List.length_append, List.length_cons, List.length_nil]; omega) (by omega)).mono ?_); rintro e w9 ⟨rfl, C9, b9⟩; replace B9 := C9; clear C9; replace f := f.bel b9 hg; clear b9)))
    rw [rounds_succ]
    go_wp2_with (first
      | (go_at_call 22; go_loud ((with_reducible refine (WriteBlank_c g _ _ B9 (by simp only [List.length_append, List.length_cons, List.length_nil]; omega)).mono ?_); rintro e w9 ⟨rfl, C9, b9⟩; replace B9 := C9; clear C9; replace f := f.bel b9 hg; clear b9))
      | (go_at_call 24; (with_reducible refine (Itoa_c _ fr Bfr.out).mono ?_); rintro e w9 ⟨rfl, rfl⟩)
      | (go_at_call 23; go_loud ((with_reducible refine (WriteString_c g _ (decS fr) _ B9 (by simp only [List.length_append, List.length_cons, List.length_nil]; omega) (by omega)).mono ?_); rintro e w9 ⟨rfl, C9, b9⟩; replace B9 := C9; clear C9; replace f := f.bel b9 hg; clear b9)))
    rw [rounds_succ]
    go_wp2_with (first
      | (go_at_call 22; go_loud ((with_reducible refine (WriteBlank_c g _ _ B9 (by simp only [List.length_append, List.length_cons, List.length_nil]; omega)).mono ?_); rintro e w9 ⟨rfl, C9, b9⟩; replace B9 := C9; clear C9; replace f := f.bel b9 hg; clear b9))
      | (go_at_call 24; (with_reducible refine (Itoa_c _ ds Bds.out).mono ?_); rintro e w9 ⟨rfl, rfl⟩)
      | (go_at_call 23; go_loud ((with_reducible refine (WriteString_c g _ (decS ds) _ B9 (by simp only [List.length_append, List.length_cons, List.length_nil]; omega) (by omega)).mono ?_); rintro e w9 ⟨rfl, C9, b9⟩; replace B9 := C9; clear C9; replace f := f.bel b9 hg; clear b9)))
    rw [rounds_succ]
    go_wp2_with (first
      | (go_at_call 22; go_loud ((with_reducible refine (WriteBlank_c g _ _ B9 (by simp only [List.length_append, List.length_cons, List.length_nil]; omega)).mono ?_); rintro e w9 ⟨rfl, C9, b9⟩; replace B9 := C9; clear C9; replace f := f.bel b9 hg; clear b9))
      | (go_at_call 24; (with_reducible refine (Itoa_c _ sm Bsm.out).mono ?_); rintro e w9 ⟨rfl, rfl⟩)
      | (go_at_call 23; go_loud ((with_reducible refine (WriteString_c g _ (decS sm) _ B9 (by simp only [List.length_append, List.length_cons, List.length_nil]; omega) (by omega)).mono ?_); rintro e w9 ⟨rfl, C9, b9⟩; replace B9 := C9; clear C9; replace f := f.bel b9 hg; clear b9)))
    rw [rounds_succ]
    go_wp2_with (first
      | (go_at_call 22; go_loud ((with_reducible refine (WriteBlank_c g _ _ B9 (by simp only [List.length_append, List.length_cons, List.length_nil]; omega)).mono ?_); rintro e w9 ⟨rfl, C9, b9⟩; replace B9 := C9; clear C9; replace f := f.bel b9 hg; clear b9))
      | (go_at_call 24; (with_reducible refine (Itoa_c _ tl Btl.out).mono ?_); rintro e w9 ⟨rfl, rfl⟩)
      | (go_at_call 23; go_loud ((with_reducible refine (WriteString_c g _ (decS tl) _ B9 (by simp only [List.length_append, List.length_cons, List.length_nil]; omega) (by omega)).mono ?_); rintro e w9 ⟨rfl, C9, b9⟩; replace B9 := C9; clear C9; replace f := f.bel b9 hg; clear b9)))
    rw [rounds_succ]
    go_wp2_with (first
      | (go_at_call 22; go_loud ((with_reducible refine (WriteBlank_c g _ _ B9 (by simp only [List.length_append, List.length_cons, List.length_nil]; omega)).mono ?_); rintro e w9 ⟨rfl, C9, b9⟩; replace B9 := C9; clear C9; replace f := f.bel b9 hg; clear b9))
      | (go_at_call 24; (with_reducible refine (Itoa_c _ vr Bvr.out).mono ?_); rintro e w9 ⟨rfl, rfl⟩)
      | (go_at_call 23; go_loud ((with_reducible refine (WriteString_c g _ (decS vr) _ B9 (by simp only [List.length_append, List.length_cons, List.length_nil]; omega) (by omega)).mono ?_); rintro e w9 ⟨rfl, C9, b9⟩; replace B9 := C9; clear C9; replace f := f.bel b9 hg; clear b9)))
    rw [rounds_succ]
    go_wp2_with (first
      | (go_at_call 25; go_loud ((with_reducible refine (String_c g _ _ B9).mono ?_); rintro e w9 ⟨rfl, b9⟩; replace f := f.bel b9 hg; clear b9)))
    go_ret
    exact ⟨by rw [E.out]; rfl, f⟩
end Go.Proofs.YtphojlkljlnfjaaDoor
