/- The reference's PacketRead. -/
import Derived.Test.YtphojlkljlnfjaaDoorLc
import Derived.Test.YtphojlkljlnfjaaDoorLd
import Derived.Test.YtphojlkljlnfjaaDoorPt
namespace Go.Proofs.YtphojlkljlnfjaaDoor
set_option maxRecDepth 100000
set_option linter.unusedVariables false
set_option linter.unusedSimpArgs false
open Go.RowKit
theorem sCut_c (w : World) (s : List UInt8) (hl : s.length ≤ 24) (n : Nat) (xs : List (List UInt8)) (hx : cutA [] s = xs) (hn : xs.length = n) : Calls Tryd.prog 30 #[.string ⟨s.toArray⟩, .int .u8 32] w fun e w' => ∃ g c F, e = .returned (.slice (some ⟨g, 0, none⟩) n c) ∧ tStr.orow 9 w' (.slice (some ⟨g, 0, none⟩) n c) xs F ∧ F.Nodup ∧ (∀ q ∈ F, w.heap.size ≤ q) ∧ Fr w w' := by
  subst hx hn
  refine (l2Cut_c w s hl).mono fun e w' h => ?_
  obtain ⟨v, F, rfl, h1, h2, h3, f⟩ := h
  obtain ⟨A, c, rfl⟩ := h1.row.val
  obtain ⟨g, rfl⟩ := orow_some h1 (cutA_pos s [])
  exact ⟨g, c, F, rfl, h1, h2, h3, f⟩
theorem l2Dec_v (w : World) (l : List UInt8) {v : Int} (h : decV l = v) : Calls Tryd.prog 31 #[.string ⟨l.toArray⟩] w (Ret (.int .i64 v) w) := h ▸ l2Dec_c w l
theorem sPacketText_v (w : World) (v0 v1 v2 v3 v4 v5 v6 : Int) {t : List UInt8} (h : txtV ⟨v0, v1, v2, v3, v4, v5, v6⟩ = t) : Calls Tryd.prog 11 #[.agg #[.int .i64 v0, .int .i64 v1, .int .i64 v2, .int .i64 v3, .int .i64 v4, .int .i64 v5, .int .i64 v6]] w (Ret (.string ⟨t.toArray⟩) w) := h ▸ sPacketText_c w ⟨v0, v1, v2, v3, v4, v5, v6⟩
section
variable {ops : Array Oper} {o : Oper} {a : Act} {w0 : World} {F0 : List Nat} {L : List Asrt}
theorem yWord {xs : List (List UInt8)} {z : List UInt8} {g n cap e i : Nat} {F : List Nat} {x : Operand} (hm : aRow tStr e xs (.slice (some ⟨g, 0, none⟩) n cap) F ∈ L) (hi : xs[i]? = some z) (hw : Region.wanted o (yielded ops a.tmps) = true := by exact rfl) (ho : o.op = .load 9 x := by exact rfl) (hx : a.eval x = .pointer (some ⟨g, i, none⟩) := by exact rfl) : YieldsIf Tryd.prog ops (Sep F0 w0 L) o (.string ⟨z.toArray⟩) a := by
  obtain ⟨hlt, rfl⟩ := List.getElem?_eq_some_iff.1 hi
  exact yields_srowld (P := Tryd.prog) (ops := ops) (o := o) (a := a) (F0 := F0) (w0 := w0) (L := L) one_tStr hw 9 x ho hx hm (i := i) hlt _ Tryd.underlying9 rfl
end
set_option maxHeartbeats 1600000 in
theorem sRead_long (w : World) (s : List UInt8) (hl : 24 < s.length) : Calls Tryd.prog 13 #[.string ⟨s.toArray⟩] w (Ret (.tuple #[.agg #[.int .i64 0, .int .i64 0, .int .i64 0, .int .i64 0, .int .i64 0, .int .i64 0, .int .i64 0], .bool false]) w) := by
  have S := Sep.start w
  have d1 : decide ((24 : Int) < (s.length : Int)) = true := decide_eq_true (by omega)
  go_enter Tryd.func13, Tryd.ntmps13
  go_wp2_with (first | ((with_reducible refine gate_box rfl ?_); refine aBx S ?_; clear S; intro g9 w9 z9 S) | ((with_reducible refine gate_alloc rfl ?_); refine aAl S ?_; clear S; intro g9 w9 z9 S) | ((with_reducible refine gate_load rfl ?_); first | refine aLd S ?_ | refine aPt S ?_ | refine aL1 S ?_) | ((with_reducible refine gate_st rfl ?_); (first | refine aS1 S ?_ | refine aSt S ?_ | refine aSp S ?_); clear S; intro w9 S))
  (refine Sep.ret1_1 S rfl rfl memA Tryd.underlying24 rfl ts24 rfl rfl ?_)
  exact ⟨rfl, S.frame⟩
set_option maxHeartbeats 1600000 in
theorem sRead_len (w : World) (s : List UInt8) (hl : s.length ≤ 24) (hn : (cutA [] s).length ≠ 7) : Calls Tryd.prog 13 #[.string ⟨s.toArray⟩] w (Ret (.tuple #[.agg #[.int .i64 0, .int .i64 0, .int .i64 0, .int .i64 0, .int .i64 0, .int .i64 0, .int .i64 0], .bool false]) w) := by
  have S := Sep.start w
  have d1 : decide ((24 : Int) < (s.length : Int)) = false := decide_eq_false (by omega)
  have d2 : ((((cutA [] s).length : Nat) : Int) == 7) = false := by simp; omega
  clear hn
  generalize hX : cutA [] s = X at d2
  generalize hN : X.length = N at d2
  replace hN := Lib.hid hN
  replace hX := Lib.hid hX
  go_enter Tryd.func13, Tryd.ntmps13
  go_wp2_with (first | (go_at_call 30; go_loud ((with_reducible refine (sCut_c _ s hl N X hX.out hN.out).mono ?_); rintro e w9 ⟨g, c, F, rfl, h9, n9, b9, f9⟩; replace S := S.new (aRow tStr 9 X _ F) h9 n9 b9 f9; clear h9 n9 b9 f9)) | ((with_reducible refine gate_box rfl ?_); refine aBx S ?_; clear S; intro g9 w9 z9 S) | ((with_reducible refine gate_alloc rfl ?_); refine aAl S ?_; clear S; intro g9 w9 z9 S) | ((with_reducible refine gate_load rfl ?_); first | refine aLd S ?_ | refine aPt S ?_ | refine aL1 S ?_) | ((with_reducible refine gate_st rfl ?_); (first | refine aS1 S ?_ | refine aSt S ?_ | refine aSp S ?_); clear S; intro w9 S))
  (refine Sep.ret1_1 S rfl rfl memA Tryd.underlying24 rfl ts24 rfl rfl ?_)
  exact ⟨rfl, S.frame⟩
set_option maxHeartbeats 6400000 in
theorem sRead_no (w : World) (s : List UInt8) (hl : s.length ≤ 24) (hs : ¬ s = []) (a0 a1 a2 a3 a4 a5 a6 : List UInt8) (hw : cutA [] s = [a0, a1, a2, a3, a4, a5, a6]) (v0 v1 v2 v3 v4 v5 v6 : Int) (q0 : decV a0 = v0) (q1 : decV a1 = v1) (q2 : decV a2 = v2) (q3 : decV a3 = v3) (q4 : decV a4 = v4) (q5 : decV a5 = v5) (q6 : decV a6 = v6) (t : List UInt8) (ht : txtV ⟨v0, v1, v2, v3, v4, v5, v6⟩ = t) (hne : ¬ t = s) : Calls Tryd.prog 13 #[.string ⟨s.toArray⟩] w (Ret (.tuple #[.agg #[.int .i64 0, .int .i64 0, .int .i64 0, .int .i64 0, .int .i64 0, .int .i64 0, .int .i64 0], .bool false]) w) := by
  have S := Sep.start w
  have d1 : decide ((24 : Int) < (s.length : Int)) = false := decide_eq_false (by omega)
  have hse : s.isEmpty = false := by cases s with | nil => exact absurd rfl hs | cons => rfl
  have hne2 : (t == s) = false := by simpa using hne
  replace hw := Lib.hid hw
  replace ht := Lib.hid ht
  replace q0 := Lib.hid q0
  replace q1 := Lib.hid q1
  replace q2 := Lib.hid q2
  replace q3 := Lib.hid q3
  replace q4 := Lib.hid q4
  replace q5 := Lib.hid q5
  replace q6 := Lib.hid q6
  go_enter Tryd.func13, Tryd.ntmps13
  go_wp2_with (first | (go_at_call 30; go_loud ((with_reducible refine (sCut_c _ s hl 7 [a0, a1, a2, a3, a4, a5, a6] hw.out rfl).mono ?_); rintro e w9 ⟨g, c, F, rfl, h9, n9, b9, f9⟩; replace S := S.new (aRow tStr 9 [a0, a1, a2, a3, a4, a5, a6] _ F) h9 n9 b9 f9; clear h9 n9 b9 f9)) | ((with_reducible refine gate_box rfl ?_); refine aBx S ?_; clear S; intro g9 w9 z9 S) | ((with_reducible refine gate_alloc rfl ?_); refine aAl S ?_; clear S; intro g9 w9 z9 S) | ((with_reducible refine gate_load rfl ?_); first | refine aLd S ?_ | refine aPt S ?_ | refine aL1 S ?_) | ((with_reducible refine gate_st rfl ?_); (first | refine aS1 S ?_ | refine aSt S ?_ | refine aSp S ?_); clear S; intro w9 S))
  have S0 : Sep [] w [aRow tStr 9 [a0, a1, a2, a3, a4, a5, a6] (.slice (some ⟨g, 0, none⟩) 7 c) F] _ := S.sub subA
  refine wp_region_noPanic ?_
  refine wp_region_held_drew (S := Sep _ _ _) (by kernel_rfl) S0.drew (fun _ => ?_)
  replace S := S.drew
  clear S0
  refine tk 0 ?_
  (try simp only [Act.put, List.setIfInBounds_toArray, List.set_cons_zero, List.set_cons_succ])
  refine tk 1 ?_
  (try simp only [Act.put, List.setIfInBounds_toArray, List.set_cons_zero, List.set_cons_succ])
  refine tk 2 ?_ (hy := by exact yWord (xs := [a0, a1, a2, a3, a4, a5, a6]) (i := 0) List.mem_cons_self rfl)
  (try simp only [Act.put, List.setIfInBounds_toArray, List.set_cons_zero, List.set_cons_succ])
  refine tk 4 ?_
  (try simp only [Act.put, List.setIfInBounds_toArray, List.set_cons_zero, List.set_cons_succ])
  refine tk 5 ?_
  (try simp only [Act.put, List.setIfInBounds_toArray, List.set_cons_zero, List.set_cons_succ])
  refine tk 6 ?_ (hy := by exact yWord (xs := [a0, a1, a2, a3, a4, a5, a6]) (i := 1) List.mem_cons_self rfl)
  (try simp only [Act.put, List.setIfInBounds_toArray, List.set_cons_zero, List.set_cons_succ])
  refine tk 8 ?_
  (try simp only [Act.put, List.setIfInBounds_toArray, List.set_cons_zero, List.set_cons_succ])
  refine tk 9 ?_
  (try simp only [Act.put, List.setIfInBounds_toArray, List.set_cons_zero, List.set_cons_succ])
  refine tk 10 ?_ (hy := by exact yWord (xs := [a0, a1, a2, a3, a4, a5, a6]) (i := 2) List.mem_cons_self rfl)
  (try simp only [Act.put, List.setIfInBounds_toArray, List.set_cons_zero, List.set_cons_succ])
  refine tk 12 ?_
  (try simp only [Act.put, List.setIfInBounds_toArray, List.set_cons_zero, List.set_cons_succ])
  refine tk 13 ?_
  (try simp only [Act.put, List.setIfInBounds_toArray, List.set_cons_zero, List.set_cons_succ])
  refine tk 14 ?_ (hy := by exact yWord (xs := [a0, a1, a2, a3, a4, a5, a6]) (i := 3) List.mem_cons_self rfl)
  (try simp only [Act.put, List.setIfInBounds_toArray, List.set_cons_zero, List.set_cons_succ])
  refine tk 16 ?_
  (try simp only [Act.put, List.setIfInBounds_toArray, List.set_cons_zero, List.set_cons_succ])
  refine tk 17 ?_
  (try simp only [Act.put, List.setIfInBounds_toArray, List.set_cons_zero, List.set_cons_succ])
  refine tk 18 ?_ (hy := by exact yWord (xs := [a0, a1, a2, a3, a4, a5, a6]) (i := 4) List.mem_cons_self rfl)
  (try simp only [Act.put, List.setIfInBounds_toArray, List.set_cons_zero, List.set_cons_succ])
  refine tk 20 ?_
  (try simp only [Act.put, List.setIfInBounds_toArray, List.set_cons_zero, List.set_cons_succ])
  refine tk 21 ?_
  (try simp only [Act.put, List.setIfInBounds_toArray, List.set_cons_zero, List.set_cons_succ])
  refine tk 22 ?_ (hy := by exact yWord (xs := [a0, a1, a2, a3, a4, a5, a6]) (i := 5) List.mem_cons_self rfl)
  (try simp only [Act.put, List.setIfInBounds_toArray, List.set_cons_zero, List.set_cons_succ])
  refine tk 24 ?_
  (try simp only [Act.put, List.setIfInBounds_toArray, List.set_cons_zero, List.set_cons_succ])
  refine tk 25 ?_
  (try simp only [Act.put, List.setIfInBounds_toArray, List.set_cons_zero, List.set_cons_succ])
  refine tk 26 ?_ (hy := by exact yWord (xs := [a0, a1, a2, a3, a4, a5, a6]) (i := 6) List.mem_cons_self rfl)
  (try simp only [Act.put, List.setIfInBounds_toArray, List.set_cons_zero, List.set_cons_succ])
  refine rdys [3, 29] ?_
  refine rdc 3 (fun K hK => ?_) ?_
  · go_simp; (skip; go_at_call 31; (with_reducible refine (l2Dec_v _ a0 q0.out).mono ?_); rintro e w9 ⟨rfl, f9⟩; replace S := S.fr f9; clear f9)
    (first | refine hK.out _ _ (S.sub subA) (fun _ => ?_) | (go_wp2_with fail; refine hK.out _ _ (S.sub subA) (fun _ => ?_)))
    clear hK K
    (try simp only [Act.put, List.setIfInBounds_toArray, List.set_cons_zero, List.set_cons_succ])
    refine rdys [7, 29] ?_
    refine rdc 7 (fun K hK => ?_) ?_
    · go_simp; (skip; go_at_call 31; (with_reducible refine (l2Dec_v _ a1 q1.out).mono ?_); rintro e w9 ⟨rfl, f9⟩; replace S := S.fr f9; clear f9)
      (first | refine hK.out _ _ (S.sub subA) (fun _ => ?_) | (go_wp2_with fail; refine hK.out _ _ (S.sub subA) (fun _ => ?_)))
      clear hK K
      (try simp only [Act.put, List.setIfInBounds_toArray, List.set_cons_zero, List.set_cons_succ])
      refine rdys [11, 29] ?_
      refine rdc 11 (fun K hK => ?_) ?_
      · go_simp; (skip; go_at_call 31; (with_reducible refine (l2Dec_v _ a2 q2.out).mono ?_); rintro e w9 ⟨rfl, f9⟩; replace S := S.fr f9; clear f9)
        (first | refine hK.out _ _ (S.sub subA) (fun _ => ?_) | (go_wp2_with fail; refine hK.out _ _ (S.sub subA) (fun _ => ?_)))
        clear hK K
        (try simp only [Act.put, List.setIfInBounds_toArray, List.set_cons_zero, List.set_cons_succ])
        refine rdys [15, 29] ?_
        refine rdc 15 (fun K hK => ?_) ?_
        · go_simp; (skip; go_at_call 31; (with_reducible refine (l2Dec_v _ a3 q3.out).mono ?_); rintro e w9 ⟨rfl, f9⟩; replace S := S.fr f9; clear f9)
          (first | refine hK.out _ _ (S.sub subA) (fun _ => ?_) | (go_wp2_with fail; refine hK.out _ _ (S.sub subA) (fun _ => ?_)))
          clear hK K
          (try simp only [Act.put, List.setIfInBounds_toArray, List.set_cons_zero, List.set_cons_succ])
          refine rdys [19, 29] ?_
          refine rdc 19 (fun K hK => ?_) ?_
          · go_simp; (skip; go_at_call 31; (with_reducible refine (l2Dec_v _ a4 q4.out).mono ?_); rintro e w9 ⟨rfl, f9⟩; replace S := S.fr f9; clear f9)
            (first | refine hK.out _ _ (S.sub subA) (fun _ => ?_) | (go_wp2_with fail; refine hK.out _ _ (S.sub subA) (fun _ => ?_)))
            clear hK K
            (try simp only [Act.put, List.setIfInBounds_toArray, List.set_cons_zero, List.set_cons_succ])
            refine rdys [23, 29] ?_
            refine rdc 23 (fun K hK => ?_) ?_
            · go_simp; (skip; go_at_call 31; (with_reducible refine (l2Dec_v _ a5 q5.out).mono ?_); rintro e w9 ⟨rfl, f9⟩; replace S := S.fr f9; clear f9)
              (first | refine hK.out _ _ (S.sub subA) (fun _ => ?_) | (go_wp2_with fail; refine hK.out _ _ (S.sub subA) (fun _ => ?_)))
              clear hK K
              (try simp only [Act.put, List.setIfInBounds_toArray, List.set_cons_zero, List.set_cons_succ])
              refine rdys [27, 29] ?_
              refine rdc 27 (fun K hK => ?_) ?_
              · go_simp; (skip; go_at_call 31; (with_reducible refine (l2Dec_v _ a6 q6.out).mono ?_); rintro e w9 ⟨rfl, f9⟩; replace S := S.fr f9; clear f9)
                (first | refine hK.out _ _ (S.sub subA) (fun _ => ?_) | (go_wp2_with fail; refine hK.out _ _ (S.sub subA) (fun _ => ?_)))
                clear hK K
                (try simp only [Act.put, List.setIfInBounds_toArray, List.set_cons_zero, List.set_cons_succ])
                refine tk 28 ?_
                (try simp only [Act.put, List.setIfInBounds_toArray, List.set_cons_zero, List.set_cons_succ])
                refine rdy1 29 (fun K hK => ?_)
                refine rgAl S ?_; clear S; intro g9 w9 z9 S
                (first | refine hK.out _ _ (S.sub subA) (fun _ => ?_) | (go_wp2_with fail; refine hK.out _ _ (S.sub subA) (fun _ => ?_)))
                clear hK K
                (try simp only [Act.put, List.setIfInBounds_toArray, List.set_cons_zero, List.set_cons_succ])
                refine rdy1 30 (fun K hK => ?_)
                (first | refine rgS1 S ?_ | refine rgSt S ?_ | refine rgSp S ?_); clear S; intro w9 S
                (first | refine hK.out _ _ (S.sub subA) (fun _ => ?_) | (go_wp2_with fail; refine hK.out _ _ (S.sub subA) (fun _ => ?_)))
                clear hK K
                (try simp only [Act.put, List.setIfInBounds_toArray, List.set_cons_zero, List.set_cons_succ])
                refine wpAnyH_done (by kernel_rfl) ?_ _
                refine NoPanic.normal ?_
                go_wp2_with (first | (go_at_call 11; go_loud ((with_reducible refine (sPacketText_v _ v0 v1 v2 v3 v4 v5 v6 ht.out).mono ?_); rintro e w9 ⟨rfl, f9⟩; replace S := S.fr f9; clear f9)) | ((with_reducible refine gate_box rfl ?_); refine aBx S ?_; clear S; intro g9 w9 z9 S) | ((with_reducible refine gate_alloc rfl ?_); refine aAl S ?_; clear S; intro g9 w9 z9 S) | ((with_reducible refine gate_load rfl ?_); first | refine aLd S ?_ | refine aPt S ?_ | refine aL1 S ?_) | ((with_reducible refine gate_st rfl ?_); (first | refine aS1 S ?_ | refine aSt S ?_ | refine aSp S ?_); clear S; intro w9 S))
                (refine Sep.ret1_1 S rfl rfl memA Tryd.underlying24 rfl ts24 rfl rfl ?_)
                exact ⟨rfl, S.frame⟩
              refine rdc 29 (fun K hK => ?_) AllReadyH.nil
              refine rgAl S ?_; clear S; intro g9 w9 z9 S
              (first | refine hK.out _ _ (S.sub subA) (fun _ => ?_) | (go_wp2_with fail; refine hK.out _ _ (S.sub subA) (fun _ => ?_)))
              clear hK K
              (try simp only [Act.put, List.setIfInBounds_toArray, List.set_cons_zero, List.set_cons_succ])
              refine rdy1 27 (fun K hK => ?_)
              go_simp; (skip; go_at_call 31; (with_reducible refine (l2Dec_v _ a6 q6.out).mono ?_); rintro e w9 ⟨rfl, f9⟩; replace S := S.fr f9; clear f9)
              (first | refine hK.out _ _ (S.sub subA) (fun _ => ?_) | (go_wp2_with fail; refine hK.out _ _ (S.sub subA) (fun _ => ?_)))
              clear hK K
              (try simp only [Act.put, List.setIfInBounds_toArray, List.set_cons_zero, List.set_cons_succ])
              refine tk 28 ?_
              (try simp only [Act.put, List.setIfInBounds_toArray, List.set_cons_zero, List.set_cons_succ])
              refine rdy1 30 (fun K hK => ?_)
              (first | refine rgS1 S ?_ | refine rgSt S ?_ | refine rgSp S ?_); clear S; intro w9 S
              (first | refine hK.out _ _ (S.sub subA) (fun _ => ?_) | (go_wp2_with fail; refine hK.out _ _ (S.sub subA) (fun _ => ?_)))
              clear hK K
              (try simp only [Act.put, List.setIfInBounds_toArray, List.set_cons_zero, List.set_cons_succ])
              refine wpAnyH_done (by kernel_rfl) ?_ _
              refine NoPanic.normal ?_
              go_wp2_with (first | (go_at_call 11; go_loud ((with_reducible refine (sPacketText_v _ v0 v1 v2 v3 v4 v5 v6 ht.out).mono ?_); rintro e w9 ⟨rfl, f9⟩; replace S := S.fr f9; clear f9)) | ((with_reducible refine gate_box rfl ?_); refine aBx S ?_; clear S; intro g9 w9 z9 S) | ((with_reducible refine gate_alloc rfl ?_); refine aAl S ?_; clear S; intro g9 w9 z9 S) | ((with_reducible refine gate_load rfl ?_); first | refine aLd S ?_ | refine aPt S ?_ | refine aL1 S ?_) | ((with_reducible refine gate_st rfl ?_); (first | refine aS1 S ?_ | refine aSt S ?_ | refine aSp S ?_); clear S; intro w9 S))
              (refine Sep.ret1_1 S rfl rfl memA Tryd.underlying24 rfl ts24 rfl rfl ?_)
              exact ⟨rfl, S.frame⟩
            refine rdc 29 (fun K hK => ?_) AllReadyH.nil
            refine rgAl S ?_; clear S; intro g9 w9 z9 S
            (first | refine hK.out _ _ (S.sub subA) (fun _ => ?_) | (go_wp2_with fail; refine hK.out _ _ (S.sub subA) (fun _ => ?_)))
            clear hK K
            (try simp only [Act.put, List.setIfInBounds_toArray, List.set_cons_zero, List.set_cons_succ])
            refine rdy1 23 (fun K hK => ?_)
            go_simp; (skip; go_at_call 31; (with_reducible refine (l2Dec_v _ a5 q5.out).mono ?_); rintro e w9 ⟨rfl, f9⟩; replace S := S.fr f9; clear f9)
            (first | refine hK.out _ _ (S.sub subA) (fun _ => ?_) | (go_wp2_with fail; refine hK.out _ _ (S.sub subA) (fun _ => ?_)))
            clear hK K
            (try simp only [Act.put, List.setIfInBounds_toArray, List.set_cons_zero, List.set_cons_succ])
            refine rdy1 27 (fun K hK => ?_)
            go_simp; (skip; go_at_call 31; (with_reducible refine (l2Dec_v _ a6 q6.out).mono ?_); rintro e w9 ⟨rfl, f9⟩; replace S := S.fr f9; clear f9)
            (first | refine hK.out _ _ (S.sub subA) (fun _ => ?_) | (go_wp2_with fail; refine hK.out _ _ (S.sub subA) (fun _ => ?_)))
            clear hK K
            (try simp only [Act.put, List.setIfInBounds_toArray, List.set_cons_zero, List.set_cons_succ])
            refine tk 28 ?_
            (try simp only [Act.put, List.setIfInBounds_toArray, List.set_cons_zero, List.set_cons_succ])
            refine rdy1 30 (fun K hK => ?_)
            (first | refine rgS1 S ?_ | refine rgSt S ?_ | refine rgSp S ?_); clear S; intro w9 S
            (first | refine hK.out _ _ (S.sub subA) (fun _ => ?_) | (go_wp2_with fail; refine hK.out _ _ (S.sub subA) (fun _ => ?_)))
            clear hK K
            (try simp only [Act.put, List.setIfInBounds_toArray, List.set_cons_zero, List.set_cons_succ])
            refine wpAnyH_done (by kernel_rfl) ?_ _
            refine NoPanic.normal ?_
            go_wp2_with (first | (go_at_call 11; go_loud ((with_reducible refine (sPacketText_v _ v0 v1 v2 v3 v4 v5 v6 ht.out).mono ?_); rintro e w9 ⟨rfl, f9⟩; replace S := S.fr f9; clear f9)) | ((with_reducible refine gate_box rfl ?_); refine aBx S ?_; clear S; intro g9 w9 z9 S) | ((with_reducible refine gate_alloc rfl ?_); refine aAl S ?_; clear S; intro g9 w9 z9 S) | ((with_reducible refine gate_load rfl ?_); first | refine aLd S ?_ | refine aPt S ?_ | refine aL1 S ?_) | ((with_reducible refine gate_st rfl ?_); (first | refine aS1 S ?_ | refine aSt S ?_ | refine aSp S ?_); clear S; intro w9 S))
            (refine Sep.ret1_1 S rfl rfl memA Tryd.underlying24 rfl ts24 rfl rfl ?_)
            exact ⟨rfl, S.frame⟩
          refine rdc 29 (fun K hK => ?_) AllReadyH.nil
          refine rgAl S ?_; clear S; intro g9 w9 z9 S
          (first | refine hK.out _ _ (S.sub subA) (fun _ => ?_) | (go_wp2_with fail; refine hK.out _ _ (S.sub subA) (fun _ => ?_)))
          clear hK K
          (try simp only [Act.put, List.setIfInBounds_toArray, List.set_cons_zero, List.set_cons_succ])
          refine rdy1 19 (fun K hK => ?_)
          go_simp; (skip; go_at_call 31; (with_reducible refine (l2Dec_v _ a4 q4.out).mono ?_); rintro e w9 ⟨rfl, f9⟩; replace S := S.fr f9; clear f9)
          (first | refine hK.out _ _ (S.sub subA) (fun _ => ?_) | (go_wp2_with fail; refine hK.out _ _ (S.sub subA) (fun _ => ?_)))
          clear hK K
          (try simp only [Act.put, List.setIfInBounds_toArray, List.set_cons_zero, List.set_cons_succ])
          refine rdy1 23 (fun K hK => ?_)
          go_simp; (skip; go_at_call 31; (with_reducible refine (l2Dec_v _ a5 q5.out).mono ?_); rintro e w9 ⟨rfl, f9⟩; replace S := S.fr f9; clear f9)
          (first | refine hK.out _ _ (S.sub subA) (fun _ => ?_) | (go_wp2_with fail; refine hK.out _ _ (S.sub subA) (fun _ => ?_)))
          clear hK K
          (try simp only [Act.put, List.setIfInBounds_toArray, List.set_cons_zero, List.set_cons_succ])
          refine rdy1 27 (fun K hK => ?_)
          go_simp; (skip; go_at_call 31; (with_reducible refine (l2Dec_v _ a6 q6.out).mono ?_); rintro e w9 ⟨rfl, f9⟩; replace S := S.fr f9; clear f9)
          (first | refine hK.out _ _ (S.sub subA) (fun _ => ?_) | (go_wp2_with fail; refine hK.out _ _ (S.sub subA) (fun _ => ?_)))
          clear hK K
          (try simp only [Act.put, List.setIfInBounds_toArray, List.set_cons_zero, List.set_cons_succ])
          refine tk 28 ?_
          (try simp only [Act.put, List.setIfInBounds_toArray, List.set_cons_zero, List.set_cons_succ])
          refine rdy1 30 (fun K hK => ?_)
          (first | refine rgS1 S ?_ | refine rgSt S ?_ | refine rgSp S ?_); clear S; intro w9 S
          (first | refine hK.out _ _ (S.sub subA) (fun _ => ?_) | (go_wp2_with fail; refine hK.out _ _ (S.sub subA) (fun _ => ?_)))
          clear hK K
          (try simp only [Act.put, List.setIfInBounds_toArray, List.set_cons_zero, List.set_cons_succ])
          refine wpAnyH_done (by kernel_rfl) ?_ _
          refine NoPanic.normal ?_
          go_wp2_with (first | (go_at_call 11; go_loud ((with_reducible refine (sPacketText_v _ v0 v1 v2 v3 v4 v5 v6 ht.out).mono ?_); rintro e w9 ⟨rfl, f9⟩; replace S := S.fr f9; clear f9)) | ((with_reducible refine gate_box rfl ?_); refine aBx S ?_; clear S; intro g9 w9 z9 S) | ((with_reducible refine gate_alloc rfl ?_); refine aAl S ?_; clear S; intro g9 w9 z9 S) | ((with_reducible refine gate_load rfl ?_); first | refine aLd S ?_ | refine aPt S ?_ | refine aL1 S ?_) | ((with_reducible refine gate_st rfl ?_); (first | refine aS1 S ?_ | refine aSt S ?_ | refine aSp S ?_); clear S; intro w9 S))
          (refine Sep.ret1_1 S rfl rfl memA Tryd.underlying24 rfl ts24 rfl rfl ?_)
          exact ⟨rfl, S.frame⟩
        refine rdc 29 (fun K hK => ?_) AllReadyH.nil
        refine rgAl S ?_; clear S; intro g9 w9 z9 S
        (first | refine hK.out _ _ (S.sub subA) (fun _ => ?_) | (go_wp2_with fail; refine hK.out _ _ (S.sub subA) (fun _ => ?_)))
        clear hK K
        (try simp only [Act.put, List.setIfInBounds_toArray, List.set_cons_zero, List.set_cons_succ])
        refine rdy1 15 (fun K hK => ?_)
        go_simp; (skip; go_at_call 31; (with_reducible refine (l2Dec_v _ a3 q3.out).mono ?_); rintro e w9 ⟨rfl, f9⟩; replace S := S.fr f9; clear f9)
        (first | refine hK.out _ _ (S.sub subA) (fun _ => ?_) | (go_wp2_with fail; refine hK.out _ _ (S.sub subA) (fun _ => ?_)))
        clear hK K
        (try simp only [Act.put, List.setIfInBounds_toArray, List.set_cons_zero, List.set_cons_succ])
        refine rdy1 19 (fun K hK => ?_)
        go_simp; (skip; go_at_call 31; (with_reducible refine (l2Dec_v _ a4 q4.out).mono ?_); rintro e w9 ⟨rfl, f9⟩; replace S := S.fr f9; clear f9)
        (first | refine hK.out _ _ (S.sub subA) (fun _ => ?_) | (go_wp2_with fail; refine hK.out _ _ (S.sub subA) (fun _ => ?_)))
        clear hK K
        (try simp only [Act.put, List.setIfInBounds_toArray, List.set_cons_zero, List.set_cons_succ])
        refine rdy1 23 (fun K hK => ?_)
        go_simp; (skip; go_at_call 31; (with_reducible refine (l2Dec_v _ a5 q5.out).mono ?_); rintro e w9 ⟨rfl, f9⟩; replace S := S.fr f9; clear f9)
        (first | refine hK.out _ _ (S.sub subA) (fun _ => ?_) | (go_wp2_with fail; refine hK.out _ _ (S.sub subA) (fun _ => ?_)))
        clear hK K
        (try simp only [Act.put, List.setIfInBounds_toArray, List.set_cons_zero, List.set_cons_succ])
        refine rdy1 27 (fun K hK => ?_)
        go_simp; (skip; go_at_call 31; (with_reducible refine (l2Dec_v _ a6 q6.out).mono ?_); rintro e w9 ⟨rfl, f9⟩; replace S := S.fr f9; clear f9)
        (first | refine hK.out _ _ (S.sub subA) (fun _ => ?_) | (go_wp2_with fail; refine hK.out _ _ (S.sub subA) (fun _ => ?_)))
        clear hK K
        (try simp only [Act.put, List.setIfInBounds_toArray, List.set_cons_zero, List.set_cons_succ])
        refine tk 28 ?_
        (try simp only [Act.put, List.setIfInBounds_toArray, List.set_cons_zero, List.set_cons_succ])
        refine rdy1 30 (fun K hK => ?_)
        (first | refine rgS1 S ?_ | refine rgSt S ?_ | refine rgSp S ?_); clear S; intro w9 S
        (first | refine hK.out _ _ (S.sub subA) (fun _ => ?_) | (go_wp2_with fail; refine hK.out _ _ (S.sub subA) (fun _ => ?_)))
        clear hK K
        (try simp only [Act.put, List.setIfInBounds_toArray, List.set_cons_zero, List.set_cons_succ])
        refine wpAnyH_done (by kernel_rfl) ?_ _
        refine NoPanic.normal ?_
        go_wp2_with (first | (go_at_call 11; go_loud ((with_reducible refine (sPacketText_v _ v0 v1 v2 v3 v4 v5 v6 ht.out).mono ?_); rintro e w9 ⟨rfl, f9⟩; replace S := S.fr f9; clear f9)) | ((with_reducible refine gate_box rfl ?_); refine aBx S ?_; clear S; intro g9 w9 z9 S) | ((with_reducible refine gate_alloc rfl ?_); refine aAl S ?_; clear S; intro g9 w9 z9 S) | ((with_reducible refine gate_load rfl ?_); first | refine aLd S ?_ | refine aPt S ?_ | refine aL1 S ?_) | ((with_reducible refine gate_st rfl ?_); (first | refine aS1 S ?_ | refine aSt S ?_ | refine aSp S ?_); clear S; intro w9 S))
        (refine Sep.ret1_1 S rfl rfl memA Tryd.underlying24 rfl ts24 rfl rfl ?_)
        exact ⟨rfl, S.frame⟩
      refine rdc 29 (fun K hK => ?_) AllReadyH.nil
      refine rgAl S ?_; clear S; intro g9 w9 z9 S
      (first | refine hK.out _ _ (S.sub subA) (fun _ => ?_) | (go_wp2_with fail; refine hK.out _ _ (S.sub subA) (fun _ => ?_)))
      clear hK K
      (try simp only [Act.put, List.setIfInBounds_toArray, List.set_cons_zero, List.set_cons_succ])
      refine rdy1 11 (fun K hK => ?_)
      go_simp; (skip; go_at_call 31; (with_reducible refine (l2Dec_v _ a2 q2.out).mono ?_); rintro e w9 ⟨rfl, f9⟩; replace S := S.fr f9; clear f9)
      (first | refine hK.out _ _ (S.sub subA) (fun _ => ?_) | (go_wp2_with fail; refine hK.out _ _ (S.sub subA) (fun _ => ?_)))
      clear hK K
      (try simp only [Act.put, List.setIfInBounds_toArray, List.set_cons_zero, List.set_cons_succ])
      refine rdy1 15 (fun K hK => ?_)
      go_simp; (skip; go_at_call 31; (with_reducible refine (l2Dec_v _ a3 q3.out).mono ?_); rintro e w9 ⟨rfl, f9⟩; replace S := S.fr f9; clear f9)
      (first | refine hK.out _ _ (S.sub subA) (fun _ => ?_) | (go_wp2_with fail; refine hK.out _ _ (S.sub subA) (fun _ => ?_)))
      clear hK K
      (try simp only [Act.put, List.setIfInBounds_toArray, List.set_cons_zero, List.set_cons_succ])
      refine rdy1 19 (fun K hK => ?_)
      go_simp; (skip; go_at_call 31; (with_reducible refine (l2Dec_v _ a4 q4.out).mono ?_); rintro e w9 ⟨rfl, f9⟩; replace S := S.fr f9; clear f9)
      (first | refine hK.out _ _ (S.sub subA) (fun _ => ?_) | (go_wp2_with fail; refine hK.out _ _ (S.sub subA) (fun _ => ?_)))
      clear hK K
      (try simp only [Act.put, List.setIfInBounds_toArray, List.set_cons_zero, List.set_cons_succ])
      refine rdy1 23 (fun K hK => ?_)
      go_simp; (skip; go_at_call 31; (with_reducible refine (l2Dec_v _ a5 q5.out).mono ?_); rintro e w9 ⟨rfl, f9⟩; replace S := S.fr f9; clear f9)
      (first | refine hK.out _ _ (S.sub subA) (fun _ => ?_) | (go_wp2_with fail; refine hK.out _ _ (S.sub subA) (fun _ => ?_)))
      clear hK K
      (try simp only [Act.put, List.setIfInBounds_toArray, List.set_cons_zero, List.set_cons_succ])
      refine rdy1 27 (fun K hK => ?_)
      go_simp; (skip; go_at_call 31; (with_reducible refine (l2Dec_v _ a6 q6.out).mono ?_); rintro e w9 ⟨rfl, f9⟩; replace S := S.fr f9; clear f9)
      (first | refine hK.out _ _ (S.sub subA) (fun _ => ?_) | (go_wp2_with fail; refine hK.out _ _ (S.sub subA) (fun _ => ?_)))
      clear hK K
      (try simp only [Act.put, List.setIfInBounds_toArray, List.set_cons_zero, List.set_cons_succ])
      refine tk 28 ?_
      (try simp only [Act.put, List.setIfInBounds_toArray, List.set_cons_zero, List.set_cons_succ])
      refine rdy1 30 (fun K hK => ?_)
      (first | refine rgS1 S ?_ | refine rgSt S ?_ | refine rgSp S ?_); clear S; intro w9 S
      (first | refine hK.out _ _ (S.sub subA) (fun _ => ?_) | (go_wp2_with fail; refine hK.out _ _ (S.sub subA) (fun _ => ?_)))
      clear hK K
      (try simp only [Act.put, List.setIfInBounds_toArray, List.set_cons_zero, List.set_cons_succ])
      refine wpAnyH_done (by kernel_rfl) ?_ _
      refine NoPanic.normal ?_
      go_wp2_with (first | (go_at_call 11; go_loud ((with_reducible refine (sPacketText_v _ v0 v1 v2 v3 v4 v5 v6 ht.out).mono ?_); rintro e w9 ⟨rfl, f9⟩; replace S := S.fr f9; clear f9)) | ((with_reducible refine gate_box rfl ?_); refine aBx S ?_; clear S; intro g9 w9 z9 S) | ((with_reducible refine gate_alloc rfl ?_); refine aAl S ?_; clear S; intro g9 w9 z9 S) | ((with_reducible refine gate_load rfl ?_); first | refine aLd S ?_ | refine aPt S ?_ | refine aL1 S ?_) | ((with_reducible refine gate_st rfl ?_); (first | refine aS1 S ?_ | refine aSt S ?_ | refine aSp S ?_); clear S; intro w9 S))
      (refine Sep.ret1_1 S rfl rfl memA Tryd.underlying24 rfl ts24 rfl rfl ?_)
      exact ⟨rfl, S.frame⟩
    refine rdc 29 (fun K hK => ?_) AllReadyH.nil
    refine rgAl S ?_; clear S; intro g9 w9 z9 S
    (first | refine hK.out _ _ (S.sub subA) (fun _ => ?_) | (go_wp2_with fail; refine hK.out _ _ (S.sub subA) (fun _ => ?_)))
    clear hK K
    (try simp only [Act.put, List.setIfInBounds_toArray, List.set_cons_zero, List.set_cons_succ])
    refine rdy1 7 (fun K hK => ?_)
    go_simp; (skip; go_at_call 31; (with_reducible refine (l2Dec_v _ a1 q1.out).mono ?_); rintro e w9 ⟨rfl, f9⟩; replace S := S.fr f9; clear f9)
    (first | refine hK.out _ _ (S.sub subA) (fun _ => ?_) | (go_wp2_with fail; refine hK.out _ _ (S.sub subA) (fun _ => ?_)))
    clear hK K
    (try simp only [Act.put, List.setIfInBounds_toArray, List.set_cons_zero, List.set_cons_succ])
    refine rdy1 11 (fun K hK => ?_)
    go_simp; (skip; go_at_call 31; (with_reducible refine (l2Dec_v _ a2 q2.out).mono ?_); rintro e w9 ⟨rfl, f9⟩; replace S := S.fr f9; clear f9)
    (first | refine hK.out _ _ (S.sub subA) (fun _ => ?_) | (go_wp2_with fail; refine hK.out _ _ (S.sub subA) (fun _ => ?_)))
    clear hK K
    (try simp only [Act.put, List.setIfInBounds_toArray, List.set_cons_zero, List.set_cons_succ])
    refine rdy1 15 (fun K hK => ?_)
    go_simp; (skip; go_at_call 31; (with_reducible refine (l2Dec_v _ a3 q3.out).mono ?_); rintro e w9 ⟨rfl, f9⟩; replace S := S.fr f9; clear f9)
    (first | refine hK.out _ _ (S.sub subA) (fun _ => ?_) | (go_wp2_with fail; refine hK.out _ _ (S.sub subA) (fun _ => ?_)))
    clear hK K
    (try simp only [Act.put, List.setIfInBounds_toArray, List.set_cons_zero, List.set_cons_succ])
    refine rdy1 19 (fun K hK => ?_)
    go_simp; (skip; go_at_call 31; (with_reducible refine (l2Dec_v _ a4 q4.out).mono ?_); rintro e w9 ⟨rfl, f9⟩; replace S := S.fr f9; clear f9)
    (first | refine hK.out _ _ (S.sub subA) (fun _ => ?_) | (go_wp2_with fail; refine hK.out _ _ (S.sub subA) (fun _ => ?_)))
    clear hK K
    (try simp only [Act.put, List.setIfInBounds_toArray, List.set_cons_zero, List.set_cons_succ])
    refine rdy1 23 (fun K hK => ?_)
    go_simp; (skip; go_at_call 31; (with_reducible refine (l2Dec_v _ a5 q5.out).mono ?_); rintro e w9 ⟨rfl, f9⟩; replace S := S.fr f9; clear f9)
    (first | refine hK.out _ _ (S.sub subA) (fun _ => ?_) | (go_wp2_with fail; refine hK.out _ _ (S.sub subA) (fun _ => ?_)))
    clear hK K
    (try simp only [Act.put, List.setIfInBounds_toArray, List.set_cons_zero, List.set_cons_succ])
    refine rdy1 27 (fun K hK => ?_)
    go_simp; (skip; go_at_call 31; (with_reducible refine (l2Dec_v _ a6 q6.out).mono ?_); rintro e w9 ⟨rfl, f9⟩; replace S := S.fr f9; clear f9)
    (first | refine hK.out _ _ (S.sub subA) (fun _ => ?_) | (go_wp2_with fail; refine hK.out _ _ (S.sub subA) (fun _ => ?_)))
    clear hK K
    (try simp only [Act.put, List.setIfInBounds_toArray, List.set_cons_zero, List.set_cons_succ])
    refine tk 28 ?_
    (try simp only [Act.put, List.setIfInBounds_toArray, List.set_cons_zero, List.set_cons_succ])
    refine rdy1 30 (fun K hK => ?_)
    (first | refine rgS1 S ?_ | refine rgSt S ?_ | refine rgSp S ?_); clear S; intro w9 S
    (first | refine hK.out _ _ (S.sub subA) (fun _ => ?_) | (go_wp2_with fail; refine hK.out _ _ (S.sub subA) (fun _ => ?_)))
    clear hK K
    (try simp only [Act.put, List.setIfInBounds_toArray, List.set_cons_zero, List.set_cons_succ])
    refine wpAnyH_done (by kernel_rfl) ?_ _
    refine NoPanic.normal ?_
    go_wp2_with (first | (go_at_call 11; go_loud ((with_reducible refine (sPacketText_v _ v0 v1 v2 v3 v4 v5 v6 ht.out).mono ?_); rintro e w9 ⟨rfl, f9⟩; replace S := S.fr f9; clear f9)) | ((with_reducible refine gate_box rfl ?_); refine aBx S ?_; clear S; intro g9 w9 z9 S) | ((with_reducible refine gate_alloc rfl ?_); refine aAl S ?_; clear S; intro g9 w9 z9 S) | ((with_reducible refine gate_load rfl ?_); first | refine aLd S ?_ | refine aPt S ?_ | refine aL1 S ?_) | ((with_reducible refine gate_st rfl ?_); (first | refine aS1 S ?_ | refine aSt S ?_ | refine aSp S ?_); clear S; intro w9 S))
    (refine Sep.ret1_1 S rfl rfl memA Tryd.underlying24 rfl ts24 rfl rfl ?_)
    exact ⟨rfl, S.frame⟩
  refine rdc 29 (fun K hK => ?_) AllReadyH.nil
  refine rgAl S ?_; clear S; intro g9 w9 z9 S
  (first | refine hK.out _ _ (S.sub subA) (fun _ => ?_) | (go_wp2_with fail; refine hK.out _ _ (S.sub subA) (fun _ => ?_)))
  clear hK K
  (try simp only [Act.put, List.setIfInBounds_toArray, List.set_cons_zero, List.set_cons_succ])
  refine rdy1 3 (fun K hK => ?_)
  go_simp; (skip; go_at_call 31; (with_reducible refine (l2Dec_v _ a0 q0.out).mono ?_); rintro e w9 ⟨rfl, f9⟩; replace S := S.fr f9; clear f9)
  (first | refine hK.out _ _ (S.sub subA) (fun _ => ?_) | (go_wp2_with fail; refine hK.out _ _ (S.sub subA) (fun _ => ?_)))
  clear hK K
  (try simp only [Act.put, List.setIfInBounds_toArray, List.set_cons_zero, List.set_cons_succ])
  refine rdy1 7 (fun K hK => ?_)
  go_simp; (skip; go_at_call 31; (with_reducible refine (l2Dec_v _ a1 q1.out).mono ?_); rintro e w9 ⟨rfl, f9⟩; replace S := S.fr f9; clear f9)
  (first | refine hK.out _ _ (S.sub subA) (fun _ => ?_) | (go_wp2_with fail; refine hK.out _ _ (S.sub subA) (fun _ => ?_)))
  clear hK K
  (try simp only [Act.put, List.setIfInBounds_toArray, List.set_cons_zero, List.set_cons_succ])
  refine rdy1 11 (fun K hK => ?_)
  go_simp; (skip; go_at_call 31; (with_reducible refine (l2Dec_v _ a2 q2.out).mono ?_); rintro e w9 ⟨rfl, f9⟩; replace S := S.fr f9; clear f9)
  (first | refine hK.out _ _ (S.sub subA) (fun _ => ?_) | (go_wp2_with fail; refine hK.out _ _ (S.sub subA) (fun _ => ?_)))
  clear hK K
  (try simp only [Act.put, List.setIfInBounds_toArray, List.set_cons_zero, List.set_cons_succ])
  refine rdy1 15 (fun K hK => ?_)
  go_simp; (skip; go_at_call 31; (with_reducible refine (l2Dec_v _ a3 q3.out).mono ?_); rintro e w9 ⟨rfl, f9⟩; replace S := S.fr f9; clear f9)
  (first | refine hK.out _ _ (S.sub subA) (fun _ => ?_) | (go_wp2_with fail; refine hK.out _ _ (S.sub subA) (fun _ => ?_)))
  clear hK K
  (try simp only [Act.put, List.setIfInBounds_toArray, List.set_cons_zero, List.set_cons_succ])
  refine rdy1 19 (fun K hK => ?_)
  go_simp; (skip; go_at_call 31; (with_reducible refine (l2Dec_v _ a4 q4.out).mono ?_); rintro e w9 ⟨rfl, f9⟩; replace S := S.fr f9; clear f9)
  (first | refine hK.out _ _ (S.sub subA) (fun _ => ?_) | (go_wp2_with fail; refine hK.out _ _ (S.sub subA) (fun _ => ?_)))
  clear hK K
  (try simp only [Act.put, List.setIfInBounds_toArray, List.set_cons_zero, List.set_cons_succ])
  refine rdy1 23 (fun K hK => ?_)
  go_simp; (skip; go_at_call 31; (with_reducible refine (l2Dec_v _ a5 q5.out).mono ?_); rintro e w9 ⟨rfl, f9⟩; replace S := S.fr f9; clear f9)
  (first | refine hK.out _ _ (S.sub subA) (fun _ => ?_) | (go_wp2_with fail; refine hK.out _ _ (S.sub subA) (fun _ => ?_)))
  clear hK K
  (try simp only [Act.put, List.setIfInBounds_toArray, List.set_cons_zero, List.set_cons_succ])
  refine rdy1 27 (fun K hK => ?_)
  go_simp; (skip; go_at_call 31; (with_reducible refine (l2Dec_v _ a6 q6.out).mono ?_); rintro e w9 ⟨rfl, f9⟩; replace S := S.fr f9; clear f9)
  (first | refine hK.out _ _ (S.sub subA) (fun _ => ?_) | (go_wp2_with fail; refine hK.out _ _ (S.sub subA) (fun _ => ?_)))
  clear hK K
  (try simp only [Act.put, List.setIfInBounds_toArray, List.set_cons_zero, List.set_cons_succ])
  refine tk 28 ?_
  (try simp only [Act.put, List.setIfInBounds_toArray, List.set_cons_zero, List.set_cons_succ])
  refine rdy1 30 (fun K hK => ?_)
  (first | refine rgS1 S ?_ | refine rgSt S ?_ | refine rgSp S ?_); clear S; intro w9 S
  (first | refine hK.out _ _ (S.sub subA) (fun _ => ?_) | (go_wp2_with fail; refine hK.out _ _ (S.sub subA) (fun _ => ?_)))
  clear hK K
  (try simp only [Act.put, List.setIfInBounds_toArray, List.set_cons_zero, List.set_cons_succ])
  refine wpAnyH_done (by kernel_rfl) ?_ _
  refine NoPanic.normal ?_
  go_wp2_with (first | (go_at_call 11; go_loud ((with_reducible refine (sPacketText_v _ v0 v1 v2 v3 v4 v5 v6 ht.out).mono ?_); rintro e w9 ⟨rfl, f9⟩; replace S := S.fr f9; clear f9)) | ((with_reducible refine gate_box rfl ?_); refine aBx S ?_; clear S; intro g9 w9 z9 S) | ((with_reducible refine gate_alloc rfl ?_); refine aAl S ?_; clear S; intro g9 w9 z9 S) | ((with_reducible refine gate_load rfl ?_); first | refine aLd S ?_ | refine aPt S ?_ | refine aL1 S ?_) | ((with_reducible refine gate_st rfl ?_); (first | refine aS1 S ?_ | refine aSt S ?_ | refine aSp S ?_); clear S; intro w9 S))
  (refine Sep.ret1_1 S rfl rfl memA Tryd.underlying24 rfl ts24 rfl rfl ?_)
  exact ⟨rfl, S.frame⟩
set_option maxHeartbeats 6400000 in
theorem sRead_yes (w : World) (s : List UInt8) (hl : s.length ≤ 24) (hs : ¬ s = []) (a0 a1 a2 a3 a4 a5 a6 : List UInt8) (hw : cutA [] s = [a0, a1, a2, a3, a4, a5, a6]) (v0 v1 v2 v3 v4 v5 v6 : Int) (q0 : decV a0 = v0) (q1 : decV a1 = v1) (q2 : decV a2 = v2) (q3 : decV a3 = v3) (q4 : decV a4 = v4) (q5 : decV a5 = v5) (q6 : decV a6 = v6) (t : List UInt8) (ht : txtV ⟨v0, v1, v2, v3, v4, v5, v6⟩ = t) (hne : t = s) : Calls Tryd.prog 13 #[.string ⟨s.toArray⟩] w (Ret (.tuple #[.agg #[.int .i64 v0, .int .i64 v1, .int .i64 v2, .int .i64 v3, .int .i64 v4, .int .i64 v5, .int .i64 v6], .bool true]) w) := by
  have S := Sep.start w
  have d1 : decide ((24 : Int) < (s.length : Int)) = false := decide_eq_false (by omega)
  have hse : s.isEmpty = false := by cases s with | nil => exact absurd rfl hs | cons => rfl
  subst hne
  replace hw := Lib.hid hw
  replace ht := Lib.hid ht
  replace q0 := Lib.hid q0
  replace q1 := Lib.hid q1
  replace q2 := Lib.hid q2
  replace q3 := Lib.hid q3
  replace q4 := Lib.hid q4
  replace q5 := Lib.hid q5
  replace q6 := Lib.hid q6
  go_enter Tryd.func13, Tryd.ntmps13
  go_wp2_with (first | (go_at_call 30; go_loud ((with_reducible refine (sCut_c _ t hl 7 [a0, a1, a2, a3, a4, a5, a6] hw.out rfl).mono ?_); rintro e w9 ⟨g, c, F, rfl, h9, n9, b9, f9⟩; replace S := S.new (aRow tStr 9 [a0, a1, a2, a3, a4, a5, a6] _ F) h9 n9 b9 f9; clear h9 n9 b9 f9)) | ((with_reducible refine gate_box rfl ?_); refine aBx S ?_; clear S; intro g9 w9 z9 S) | ((with_reducible refine gate_alloc rfl ?_); refine aAl S ?_; clear S; intro g9 w9 z9 S) | ((with_reducible refine gate_load rfl ?_); first | refine aLd S ?_ | refine aPt S ?_ | refine aL1 S ?_) | ((with_reducible refine gate_st rfl ?_); (first | refine aS1 S ?_ | refine aSt S ?_ | refine aSp S ?_); clear S; intro w9 S))
  have S0 : Sep [] w [aRow tStr 9 [a0, a1, a2, a3, a4, a5, a6] (.slice (some ⟨g, 0, none⟩) 7 c) F] _ := S.sub subA
  refine wp_region_noPanic ?_
  refine wp_region_held_drew (S := Sep _ _ _) (by kernel_rfl) S0.drew (fun _ => ?_)
  replace S := S.drew
  clear S0
  refine tk 0 ?_
  (try simp only [Act.put, List.setIfInBounds_toArray, List.set_cons_zero, List.set_cons_succ])
  refine tk 1 ?_
  (try simp only [Act.put, List.setIfInBounds_toArray, List.set_cons_zero, List.set_cons_succ])
  refine tk 2 ?_ (hy := by exact yWord (xs := [a0, a1, a2, a3, a4, a5, a6]) (i := 0) List.mem_cons_self rfl)
  (try simp only [Act.put, List.setIfInBounds_toArray, List.set_cons_zero, List.set_cons_succ])
  refine tk 4 ?_
  (try simp only [Act.put, List.setIfInBounds_toArray, List.set_cons_zero, List.set_cons_succ])
  refine tk 5 ?_
  (try simp only [Act.put, List.setIfInBounds_toArray, List.set_cons_zero, List.set_cons_succ])
  refine tk 6 ?_ (hy := by exact yWord (xs := [a0, a1, a2, a3, a4, a5, a6]) (i := 1) List.mem_cons_self rfl)
  (try simp only [Act.put, List.setIfInBounds_toArray, List.set_cons_zero, List.set_cons_succ])
  refine tk 8 ?_
  (try simp only [Act.put, List.setIfInBounds_toArray, List.set_cons_zero, List.set_cons_succ])
  refine tk 9 ?_
  (try simp only [Act.put, List.setIfInBounds_toArray, List.set_cons_zero, List.set_cons_succ])
  refine tk 10 ?_ (hy := by exact yWord (xs := [a0, a1, a2, a3, a4, a5, a6]) (i := 2) List.mem_cons_self rfl)
  (try simp only [Act.put, List.setIfInBounds_toArray, List.set_cons_zero, List.set_cons_succ])
  refine tk 12 ?_
  (try simp only [Act.put, List.setIfInBounds_toArray, List.set_cons_zero, List.set_cons_succ])
  refine tk 13 ?_
  (try simp only [Act.put, List.setIfInBounds_toArray, List.set_cons_zero, List.set_cons_succ])
  refine tk 14 ?_ (hy := by exact yWord (xs := [a0, a1, a2, a3, a4, a5, a6]) (i := 3) List.mem_cons_self rfl)
  (try simp only [Act.put, List.setIfInBounds_toArray, List.set_cons_zero, List.set_cons_succ])
  refine tk 16 ?_
  (try simp only [Act.put, List.setIfInBounds_toArray, List.set_cons_zero, List.set_cons_succ])
  refine tk 17 ?_
  (try simp only [Act.put, List.setIfInBounds_toArray, List.set_cons_zero, List.set_cons_succ])
  refine tk 18 ?_ (hy := by exact yWord (xs := [a0, a1, a2, a3, a4, a5, a6]) (i := 4) List.mem_cons_self rfl)
  (try simp only [Act.put, List.setIfInBounds_toArray, List.set_cons_zero, List.set_cons_succ])
  refine tk 20 ?_
  (try simp only [Act.put, List.setIfInBounds_toArray, List.set_cons_zero, List.set_cons_succ])
  refine tk 21 ?_
  (try simp only [Act.put, List.setIfInBounds_toArray, List.set_cons_zero, List.set_cons_succ])
  refine tk 22 ?_ (hy := by exact yWord (xs := [a0, a1, a2, a3, a4, a5, a6]) (i := 5) List.mem_cons_self rfl)
  (try simp only [Act.put, List.setIfInBounds_toArray, List.set_cons_zero, List.set_cons_succ])
  refine tk 24 ?_
  (try simp only [Act.put, List.setIfInBounds_toArray, List.set_cons_zero, List.set_cons_succ])
  refine tk 25 ?_
  (try simp only [Act.put, List.setIfInBounds_toArray, List.set_cons_zero, List.set_cons_succ])
  refine tk 26 ?_ (hy := by exact yWord (xs := [a0, a1, a2, a3, a4, a5, a6]) (i := 6) List.mem_cons_self rfl)
  (try simp only [Act.put, List.setIfInBounds_toArray, List.set_cons_zero, List.set_cons_succ])
  refine rdys [3, 29] ?_
  refine rdc 3 (fun K hK => ?_) ?_
  · go_simp; (skip; go_at_call 31; (with_reducible refine (l2Dec_v _ a0 q0.out).mono ?_); rintro e w9 ⟨rfl, f9⟩; replace S := S.fr f9; clear f9)
    (first | refine hK.out _ _ (S.sub subA) (fun _ => ?_) | (go_wp2_with fail; refine hK.out _ _ (S.sub subA) (fun _ => ?_)))
    clear hK K
    (try simp only [Act.put, List.setIfInBounds_toArray, List.set_cons_zero, List.set_cons_succ])
    refine rdys [7, 29] ?_
    refine rdc 7 (fun K hK => ?_) ?_
    · go_simp; (skip; go_at_call 31; (with_reducible refine (l2Dec_v _ a1 q1.out).mono ?_); rintro e w9 ⟨rfl, f9⟩; replace S := S.fr f9; clear f9)
      (first | refine hK.out _ _ (S.sub subA) (fun _ => ?_) | (go_wp2_with fail; refine hK.out _ _ (S.sub subA) (fun _ => ?_)))
      clear hK K
      (try simp only [Act.put, List.setIfInBounds_toArray, List.set_cons_zero, List.set_cons_succ])
      refine rdys [11, 29] ?_
      refine rdc 11 (fun K hK => ?_) ?_
      · go_simp; (skip; go_at_call 31; (with_reducible refine (l2Dec_v _ a2 q2.out).mono ?_); rintro e w9 ⟨rfl, f9⟩; replace S := S.fr f9; clear f9)
        (first | refine hK.out _ _ (S.sub subA) (fun _ => ?_) | (go_wp2_with fail; refine hK.out _ _ (S.sub subA) (fun _ => ?_)))
        clear hK K
        (try simp only [Act.put, List.setIfInBounds_toArray, List.set_cons_zero, List.set_cons_succ])
        refine rdys [15, 29] ?_
        refine rdc 15 (fun K hK => ?_) ?_
        · go_simp; (skip; go_at_call 31; (with_reducible refine (l2Dec_v _ a3 q3.out).mono ?_); rintro e w9 ⟨rfl, f9⟩; replace S := S.fr f9; clear f9)
          (first | refine hK.out _ _ (S.sub subA) (fun _ => ?_) | (go_wp2_with fail; refine hK.out _ _ (S.sub subA) (fun _ => ?_)))
          clear hK K
          (try simp only [Act.put, List.setIfInBounds_toArray, List.set_cons_zero, List.set_cons_succ])
          refine rdys [19, 29] ?_
          refine rdc 19 (fun K hK => ?_) ?_
          · go_simp; (skip; go_at_call 31; (with_reducible refine (l2Dec_v _ a4 q4.out).mono ?_); rintro e w9 ⟨rfl, f9⟩; replace S := S.fr f9; clear f9)
            (first | refine hK.out _ _ (S.sub subA) (fun _ => ?_) | (go_wp2_with fail; refine hK.out _ _ (S.sub subA) (fun _ => ?_)))
            clear hK K
            (try simp only [Act.put, List.setIfInBounds_toArray, List.set_cons_zero, List.set_cons_succ])
            refine rdys [23, 29] ?_
            refine rdc 23 (fun K hK => ?_) ?_
            · go_simp; (skip; go_at_call 31; (with_reducible refine (l2Dec_v _ a5 q5.out).mono ?_); rintro e w9 ⟨rfl, f9⟩; replace S := S.fr f9; clear f9)
              (first | refine hK.out _ _ (S.sub subA) (fun _ => ?_) | (go_wp2_with fail; refine hK.out _ _ (S.sub subA) (fun _ => ?_)))
              clear hK K
              (try simp only [Act.put, List.setIfInBounds_toArray, List.set_cons_zero, List.set_cons_succ])
              refine rdys [27, 29] ?_
              refine rdc 27 (fun K hK => ?_) ?_
              · go_simp; (skip; go_at_call 31; (with_reducible refine (l2Dec_v _ a6 q6.out).mono ?_); rintro e w9 ⟨rfl, f9⟩; replace S := S.fr f9; clear f9)
                (first | refine hK.out _ _ (S.sub subA) (fun _ => ?_) | (go_wp2_with fail; refine hK.out _ _ (S.sub subA) (fun _ => ?_)))
                clear hK K
                (try simp only [Act.put, List.setIfInBounds_toArray, List.set_cons_zero, List.set_cons_succ])
                refine tk 28 ?_
                (try simp only [Act.put, List.setIfInBounds_toArray, List.set_cons_zero, List.set_cons_succ])
                refine rdy1 29 (fun K hK => ?_)
                refine rgAl S ?_; clear S; intro g9 w9 z9 S
                (first | refine hK.out _ _ (S.sub subA) (fun _ => ?_) | (go_wp2_with fail; refine hK.out _ _ (S.sub subA) (fun _ => ?_)))
                clear hK K
                (try simp only [Act.put, List.setIfInBounds_toArray, List.set_cons_zero, List.set_cons_succ])
                refine rdy1 30 (fun K hK => ?_)
                (first | refine rgS1 S ?_ | refine rgSt S ?_ | refine rgSp S ?_); clear S; intro w9 S
                (first | refine hK.out _ _ (S.sub subA) (fun _ => ?_) | (go_wp2_with fail; refine hK.out _ _ (S.sub subA) (fun _ => ?_)))
                clear hK K
                (try simp only [Act.put, List.setIfInBounds_toArray, List.set_cons_zero, List.set_cons_succ])
                refine wpAnyH_done (by kernel_rfl) ?_ _
                refine NoPanic.normal ?_
                go_wp2_with (first | (go_at_call 11; go_loud ((with_reducible refine (sPacketText_v _ v0 v1 v2 v3 v4 v5 v6 ht.out).mono ?_); rintro e w9 ⟨rfl, f9⟩; replace S := S.fr f9; clear f9)) | ((with_reducible refine gate_box rfl ?_); refine aBx S ?_; clear S; intro g9 w9 z9 S) | ((with_reducible refine gate_alloc rfl ?_); refine aAl S ?_; clear S; intro g9 w9 z9 S) | ((with_reducible refine gate_load rfl ?_); first | refine aLd S ?_ | refine aPt S ?_ | refine aL1 S ?_) | ((with_reducible refine gate_st rfl ?_); (first | refine aS1 S ?_ | refine aSt S ?_ | refine aSp S ?_); clear S; intro w9 S))
                (refine Sep.ret1_1 S rfl rfl memA Tryd.underlying24 rfl ts24 rfl rfl ?_)
                exact ⟨rfl, S.frame⟩
              refine rdc 29 (fun K hK => ?_) AllReadyH.nil
              refine rgAl S ?_; clear S; intro g9 w9 z9 S
              (first | refine hK.out _ _ (S.sub subA) (fun _ => ?_) | (go_wp2_with fail; refine hK.out _ _ (S.sub subA) (fun _ => ?_)))
              clear hK K
              (try simp only [Act.put, List.setIfInBounds_toArray, List.set_cons_zero, List.set_cons_succ])
              refine rdy1 27 (fun K hK => ?_)
              go_simp; (skip; go_at_call 31; (with_reducible refine (l2Dec_v _ a6 q6.out).mono ?_); rintro e w9 ⟨rfl, f9⟩; replace S := S.fr f9; clear f9)
              (first | refine hK.out _ _ (S.sub subA) (fun _ => ?_) | (go_wp2_with fail; refine hK.out _ _ (S.sub subA) (fun _ => ?_)))
              clear hK K
              (try simp only [Act.put, List.setIfInBounds_toArray, List.set_cons_zero, List.set_cons_succ])
              refine tk 28 ?_
              (try simp only [Act.put, List.setIfInBounds_toArray, List.set_cons_zero, List.set_cons_succ])
              refine rdy1 30 (fun K hK => ?_)
              (first | refine rgS1 S ?_ | refine rgSt S ?_ | refine rgSp S ?_); clear S; intro w9 S
              (first | refine hK.out _ _ (S.sub subA) (fun _ => ?_) | (go_wp2_with fail; refine hK.out _ _ (S.sub subA) (fun _ => ?_)))
              clear hK K
              (try simp only [Act.put, List.setIfInBounds_toArray, List.set_cons_zero, List.set_cons_succ])
              refine wpAnyH_done (by kernel_rfl) ?_ _
              refine NoPanic.normal ?_
              go_wp2_with (first | (go_at_call 11; go_loud ((with_reducible refine (sPacketText_v _ v0 v1 v2 v3 v4 v5 v6 ht.out).mono ?_); rintro e w9 ⟨rfl, f9⟩; replace S := S.fr f9; clear f9)) | ((with_reducible refine gate_box rfl ?_); refine aBx S ?_; clear S; intro g9 w9 z9 S) | ((with_reducible refine gate_alloc rfl ?_); refine aAl S ?_; clear S; intro g9 w9 z9 S) | ((with_reducible refine gate_load rfl ?_); first | refine aLd S ?_ | refine aPt S ?_ | refine aL1 S ?_) | ((with_reducible refine gate_st rfl ?_); (first | refine aS1 S ?_ | refine aSt S ?_ | refine aSp S ?_); clear S; intro w9 S))
              (refine Sep.ret1_1 S rfl rfl memA Tryd.underlying24 rfl ts24 rfl rfl ?_)
              exact ⟨rfl, S.frame⟩
            refine rdc 29 (fun K hK => ?_) AllReadyH.nil
            refine rgAl S ?_; clear S; intro g9 w9 z9 S
            (first | refine hK.out _ _ (S.sub subA) (fun _ => ?_) | (go_wp2_with fail; refine hK.out _ _ (S.sub subA) (fun _ => ?_)))
            clear hK K
            (try simp only [Act.put, List.setIfInBounds_toArray, List.set_cons_zero, List.set_cons_succ])
            refine rdy1 23 (fun K hK => ?_)
            go_simp; (skip; go_at_call 31; (with_reducible refine (l2Dec_v _ a5 q5.out).mono ?_); rintro e w9 ⟨rfl, f9⟩; replace S := S.fr f9; clear f9)
            (first | refine hK.out _ _ (S.sub subA) (fun _ => ?_) | (go_wp2_with fail; refine hK.out _ _ (S.sub subA) (fun _ => ?_)))
            clear hK K
            (try simp only [Act.put, List.setIfInBounds_toArray, List.set_cons_zero, List.set_cons_succ])
            refine rdy1 27 (fun K hK => ?_)
            go_simp; (skip; go_at_call 31; (with_reducible refine (l2Dec_v _ a6 q6.out).mono ?_); rintro e w9 ⟨rfl, f9⟩; replace S := S.fr f9; clear f9)
            (first | refine hK.out _ _ (S.sub subA) (fun _ => ?_) | (go_wp2_with fail; refine hK.out _ _ (S.sub subA) (fun _ => ?_)))
            clear hK K
            (try simp only [Act.put, List.setIfInBounds_toArray, List.set_cons_zero, List.set_cons_succ])
            refine tk 28 ?_
            (try simp only [Act.put, List.setIfInBounds_toArray, List.set_cons_zero, List.set_cons_succ])
            refine rdy1 30 (fun K hK => ?_)
            (first | refine rgS1 S ?_ | refine rgSt S ?_ | refine rgSp S ?_); clear S; intro w9 S
            (first | refine hK.out _ _ (S.sub subA) (fun _ => ?_) | (go_wp2_with fail; refine hK.out _ _ (S.sub subA) (fun _ => ?_)))
            clear hK K
            (try simp only [Act.put, List.setIfInBounds_toArray, List.set_cons_zero, List.set_cons_succ])
            refine wpAnyH_done (by kernel_rfl) ?_ _
            refine NoPanic.normal ?_
            go_wp2_with (first | (go_at_call 11; go_loud ((with_reducible refine (sPacketText_v _ v0 v1 v2 v3 v4 v5 v6 ht.out).mono ?_); rintro e w9 ⟨rfl, f9⟩; replace S := S.fr f9; clear f9)) | ((with_reducible refine gate_box rfl ?_); refine aBx S ?_; clear S; intro g9 w9 z9 S) | ((with_reducible refine gate_alloc rfl ?_); refine aAl S ?_; clear S; intro g9 w9 z9 S) | ((with_reducible refine gate_load rfl ?_); first | refine aLd S ?_ | refine aPt S ?_ | refine aL1 S ?_) | ((with_reducible refine gate_st rfl ?_); (first | refine aS1 S ?_ | refine aSt S ?_ | refine aSp S ?_); clear S; intro w9 S))
            (refine Sep.ret1_1 S rfl rfl memA Tryd.underlying24 rfl ts24 rfl rfl ?_)
            exact ⟨rfl, S.frame⟩
          refine rdc 29 (fun K hK => ?_) AllReadyH.nil
          refine rgAl S ?_; clear S; intro g9 w9 z9 S
          (first | refine hK.out _ _ (S.sub subA) (fun _ => ?_) | (go_wp2_with fail; refine hK.out _ _ (S.sub subA) (fun _ => ?_)))
          clear hK K
          (try simp only [Act.put, List.setIfInBounds_toArray, List.set_cons_zero, List.set_cons_succ])
          refine rdy1 19 (fun K hK => ?_)
          go_simp; (skip; go_at_call 31; (with_reducible refine (l2Dec_v _ a4 q4.out).mono ?_); rintro e w9 ⟨rfl, f9⟩; replace S := S.fr f9; clear f9)
          (first | refine hK.out _ _ (S.sub subA) (fun _ => ?_) | (go_wp2_with fail; refine hK.out _ _ (S.sub subA) (fun _ => ?_)))
          clear hK K
          (try simp only [Act.put, List.setIfInBounds_toArray, List.set_cons_zero, List.set_cons_succ])
          refine rdy1 23 (fun K hK => ?_)
          go_simp; (skip; go_at_call 31; (with_reducible refine (l2Dec_v _ a5 q5.out).mono ?_); rintro e w9 ⟨rfl, f9⟩; replace S := S.fr f9; clear f9)
          (first | refine hK.out _ _ (S.sub subA) (fun _ => ?_) | (go_wp2_with fail; refine hK.out _ _ (S.sub subA) (fun _ => ?_)))
          clear hK K
          (try simp only [Act.put, List.setIfInBounds_toArray, List.set_cons_zero, List.set_cons_succ])
          refine rdy1 27 (fun K hK => ?_)
          go_simp; (skip; go_at_call 31; (with_reducible refine (l2Dec_v _ a6 q6.out).mono ?_); rintro e w9 ⟨rfl, f9⟩; replace S := S.fr f9; clear f9)
          (first | refine hK.out _ _ (S.sub subA) (fun _ => ?_) | (go_wp2_with fail; refine hK.out _ _ (S.sub subA) (fun _ => ?_)))
          clear hK K
          (try simp only [Act.put, List.setIfInBounds_toArray, List.set_cons_zero, List.set_cons_succ])
          refine tk 28 ?_
          (try simp only [Act.put, List.setIfInBounds_toArray, List.set_cons_zero, List.set_cons_succ])
          refine rdy1 30 (fun K hK => ?_)
          (first | refine rgS1 S ?_ | refine rgSt S ?_ | refine rgSp S ?_); clear S; intro w9 S
          (first | refine hK.out _ _ (S.sub subA) (fun _ => ?_) | (go_wp2_with fail; refine hK.out _ _ (S.sub subA) (fun _ => ?_)))
          clear hK K
          (try simp only [Act.put, List.setIfInBounds_toArray, List.set_cons_zero, List.set_cons_succ])
          refine wpAnyH_done (by kernel_rfl) ?_ _
          refine NoPanic.normal ?_
          go_wp2_with (first | (go_at_call 11; go_loud ((with_reducible refine (sPacketText_v _ v0 v1 v2 v3 v4 v5 v6 ht.out).mono ?_); rintro e w9 ⟨rfl, f9⟩; replace S := S.fr f9; clear f9)) | ((with_reducible refine gate_box rfl ?_); refine aBx S ?_; clear S; intro g9 w9 z9 S) | ((with_reducible refine gate_alloc rfl ?_); refine aAl S ?_; clear S; intro g9 w9 z9 S) | ((with_reducible refine gate_load rfl ?_); first | refine aLd S ?_ | refine aPt S ?_ | refine aL1 S ?_) | ((with_reducible refine gate_st rfl ?_); (first | refine aS1 S ?_ | refine aSt S ?_ | refine aSp S ?_); clear S; intro w9 S))
          (refine Sep.ret1_1 S rfl rfl memA Tryd.underlying24 rfl ts24 rfl rfl ?_)
          exact ⟨rfl, S.frame⟩
        refine rdc 29 (fun K hK => ?_) AllReadyH.nil
        refine rgAl S ?_; clear S; intro g9 w9 z9 S
        (first | refine hK.out _ _ (S.sub subA) (fun _ => ?_) | (go_wp2_with fail; refine hK.out _ _ (S.sub subA) (fun _ => ?_)))
        clear hK K
        (try simp only [Act.put, List.setIfInBounds_toArray, List.set_cons_zero, List.set_cons_succ])
        refine rdy1 15 (fun K hK => ?_)
        go_simp; (skip; go_at_call 31; (with_reducible refine (l2Dec_v _ a3 q3.out).mono ?_); rintro e w9 ⟨rfl, f9⟩; replace S := S.fr f9; clear f9)
        (first | refine hK.out _ _ (S.sub subA) (fun _ => ?_) | (go_wp2_with fail; refine hK.out _ _ (S.sub subA) (fun _ => ?_)))
        clear hK K
        (try simp only [Act.put, List.setIfInBounds_toArray, List.set_cons_zero, List.set_cons_succ])
        refine rdy1 19 (fun K hK => ?_)
        go_simp; (skip; go_at_call 31; (with_reducible refine (l2Dec_v _ a4 q4.out).mono ?_); rintro e w9 ⟨rfl, f9⟩; replace S := S.fr f9; clear f9)
        (first | refine hK.out _ _ (S.sub subA) (fun _ => ?_) | (go_wp2_with fail; refine hK.out _ _ (S.sub subA) (fun _ => ?_)))
        clear hK K
        (try simp only [Act.put, List.setIfInBounds_toArray, List.set_cons_zero, List.set_cons_succ])
        refine rdy1 23 (fun K hK => ?_)
        go_simp; (skip; go_at_call 31; (with_reducible refine (l2Dec_v _ a5 q5.out).mono ?_); rintro e w9 ⟨rfl, f9⟩; replace S := S.fr f9; clear f9)
        (first | refine hK.out _ _ (S.sub subA) (fun _ => ?_) | (go_wp2_with fail; refine hK.out _ _ (S.sub subA) (fun _ => ?_)))
        clear hK K
        (try simp only [Act.put, List.setIfInBounds_toArray, List.set_cons_zero, List.set_cons_succ])
        refine rdy1 27 (fun K hK => ?_)
        go_simp; (skip; go_at_call 31; (with_reducible refine (l2Dec_v _ a6 q6.out).mono ?_); rintro e w9 ⟨rfl, f9⟩; replace S := S.fr f9; clear f9)
        (first | refine hK.out _ _ (S.sub subA) (fun _ => ?_) | (go_wp2_with fail; refine hK.out _ _ (S.sub subA) (fun _ => ?_)))
        clear hK K
        (try simp only [Act.put, List.setIfInBounds_toArray, List.set_cons_zero, List.set_cons_succ])
        refine tk 28 ?_
        (try simp only [Act.put, List.setIfInBounds_toArray, List.set_cons_zero, List.set_cons_succ])
        refine rdy1 30 (fun K hK => ?_)
        (first | refine rgS1 S ?_ | refine rgSt S ?_ | refine rgSp S ?_); clear S; intro w9 S
        (first | refine hK.out _ _ (S.sub subA) (fun _ => ?_) | (go_wp2_with fail; refine hK.out _ _ (S.sub subA) (fun _ => ?_)))
        clear hK K
        (try simp only [Act.put, List.setIfInBounds_toArray, List.set_cons_zero, List.set_cons_succ])
        refine wpAnyH_done (by kernel_rfl) ?_ _
        refine NoPanic.normal ?_
        go_wp2_with (first | (go_at_call 11; go_loud ((with_reducible refine (sPacketText_v _ v0 v1 v2 v3 v4 v5 v6 ht.out).mono ?_); rintro e w9 ⟨rfl, f9⟩; replace S := S.fr f9; clear f9)) | ((with_reducible refine gate_box rfl ?_); refine aBx S ?_; clear S; intro g9 w9 z9 S) | ((with_reducible refine gate_alloc rfl ?_); refine aAl S ?_; clear S; intro g9 w9 z9 S) | ((with_reducible refine gate_load rfl ?_); first | refine aLd S ?_ | refine aPt S ?_ | refine aL1 S ?_) | ((with_reducible refine gate_st rfl ?_); (first | refine aS1 S ?_ | refine aSt S ?_ | refine aSp S ?_); clear S; intro w9 S))
        (refine Sep.ret1_1 S rfl rfl memA Tryd.underlying24 rfl ts24 rfl rfl ?_)
        exact ⟨rfl, S.frame⟩
      refine rdc 29 (fun K hK => ?_) AllReadyH.nil
      refine rgAl S ?_; clear S; intro g9 w9 z9 S
      (first | refine hK.out _ _ (S.sub subA) (fun _ => ?_) | (go_wp2_with fail; refine hK.out _ _ (S.sub subA) (fun _ => ?_)))
      clear hK K
      (try simp only [Act.put, List.setIfInBounds_toArray, List.set_cons_zero, List.set_cons_succ])
      refine rdy1 11 (fun K hK => ?_)
      go_simp; (skip; go_at_call 31; (with_reducible refine (l2Dec_v _ a2 q2.out).mono ?_); rintro e w9 ⟨rfl, f9⟩; replace S := S.fr f9; clear f9)
      (first | refine hK.out _ _ (S.sub subA) (fun _ => ?_) | (go_wp2_with fail; refine hK.out _ _ (S.sub subA) (fun _ => ?_)))
      clear hK K
      (try simp only [Act.put, List.setIfInBounds_toArray, List.set_cons_zero, List.set_cons_succ])
      refine rdy1 15 (fun K hK => ?_)
      go_simp; (skip; go_at_call 31; (with_reducible refine (l2Dec_v _ a3 q3.out).mono ?_); rintro e w9 ⟨rfl, f9⟩; replace S := S.fr f9; clear f9)
      (first | refine hK.out _ _ (S.sub subA) (fun _ => ?_) | (go_wp2_with fail; refine hK.out _ _ (S.sub subA) (fun _ => ?_)))
      clear hK K
      (try simp only [Act.put, List.setIfInBounds_toArray, List.set_cons_zero, List.set_cons_succ])
      refine rdy1 19 (fun K hK => ?_)
      go_simp; (skip; go_at_call 31; (with_reducible refine (l2Dec_v _ a4 q4.out).mono ?_); rintro e w9 ⟨rfl, f9⟩; replace S := S.fr f9; clear f9)
      (first | refine hK.out _ _ (S.sub subA) (fun _ => ?_) | (go_wp2_with fail; refine hK.out _ _ (S.sub subA) (fun _ => ?_)))
      clear hK K
      (try simp only [Act.put, List.setIfInBounds_toArray, List.set_cons_zero, List.set_cons_succ])
      refine rdy1 23 (fun K hK => ?_)
      go_simp; (skip; go_at_call 31; (with_reducible refine (l2Dec_v _ a5 q5.out).mono ?_); rintro e w9 ⟨rfl, f9⟩; replace S := S.fr f9; clear f9)
      (first | refine hK.out _ _ (S.sub subA) (fun _ => ?_) | (go_wp2_with fail; refine hK.out _ _ (S.sub subA) (fun _ => ?_)))
      clear hK K
      (try simp only [Act.put, List.setIfInBounds_toArray, List.set_cons_zero, List.set_cons_succ])
      refine rdy1 27 (fun K hK => ?_)
      go_simp; (skip; go_at_call 31; (with_reducible refine (l2Dec_v _ a6 q6.out).mono ?_); rintro e w9 ⟨rfl, f9⟩; replace S := S.fr f9; clear f9)
      (first | refine hK.out _ _ (S.sub subA) (fun _ => ?_) | (go_wp2_with fail; refine hK.out _ _ (S.sub subA) (fun _ => ?_)))
      clear hK K
      (try simp only [Act.put, List.setIfInBounds_toArray, List.set_cons_zero, List.set_cons_succ])
      refine tk 28 ?_
      (try simp only [Act.put, List.setIfInBounds_toArray, List.set_cons_zero, List.set_cons_succ])
      refine rdy1 30 (fun K hK => ?_)
      (first | refine rgS1 S ?_ | refine rgSt S ?_ | refine rgSp S ?_); clear S; intro w9 S
      (first | refine hK.out _ _ (S.sub subA) (fun _ => ?_) | (go_wp2_with fail; refine hK.out _ _ (S.sub subA) (fun _ => ?_)))
      clear hK K
      (try simp only [Act.put, List.setIfInBounds_toArray, List.set_cons_zero, List.set_cons_succ])
      refine wpAnyH_done (by kernel_rfl) ?_ _
      refine NoPanic.normal ?_
      go_wp2_with (first | (go_at_call 11; go_loud ((with_reducible refine (sPacketText_v _ v0 v1 v2 v3 v4 v5 v6 ht.out).mono ?_); rintro e w9 ⟨rfl, f9⟩; replace S := S.fr f9; clear f9)) | ((with_reducible refine gate_box rfl ?_); refine aBx S ?_; clear S; intro g9 w9 z9 S) | ((with_reducible refine gate_alloc rfl ?_); refine aAl S ?_; clear S; intro g9 w9 z9 S) | ((with_reducible refine gate_load rfl ?_); first | refine aLd S ?_ | refine aPt S ?_ | refine aL1 S ?_) | ((with_reducible refine gate_st rfl ?_); (first | refine aS1 S ?_ | refine aSt S ?_ | refine aSp S ?_); clear S; intro w9 S))
      (refine Sep.ret1_1 S rfl rfl memA Tryd.underlying24 rfl ts24 rfl rfl ?_)
      exact ⟨rfl, S.frame⟩
    refine rdc 29 (fun K hK => ?_) AllReadyH.nil
    refine rgAl S ?_; clear S; intro g9 w9 z9 S
    (first | refine hK.out _ _ (S.sub subA) (fun _ => ?_) | (go_wp2_with fail; refine hK.out _ _ (S.sub subA) (fun _ => ?_)))
    clear hK K
    (try simp only [Act.put, List.setIfInBounds_toArray, List.set_cons_zero, List.set_cons_succ])
    refine rdy1 7 (fun K hK => ?_)
    go_simp; (skip; go_at_call 31; (with_reducible refine (l2Dec_v _ a1 q1.out).mono ?_); rintro e w9 ⟨rfl, f9⟩; replace S := S.fr f9; clear f9)
    (first | refine hK.out _ _ (S.sub subA) (fun _ => ?_) | (go_wp2_with fail; refine hK.out _ _ (S.sub subA) (fun _ => ?_)))
    clear hK K
    (try simp only [Act.put, List.setIfInBounds_toArray, List.set_cons_zero, List.set_cons_succ])
    refine rdy1 11 (fun K hK => ?_)
    go_simp; (skip; go_at_call 31; (with_reducible refine (l2Dec_v _ a2 q2.out).mono ?_); rintro e w9 ⟨rfl, f9⟩; replace S := S.fr f9; clear f9)
    (first | refine hK.out _ _ (S.sub subA) (fun _ => ?_) | (go_wp2_with fail; refine hK.out _ _ (S.sub subA) (fun _ => ?_)))
    clear hK K
    (try simp only [Act.put, List.setIfInBounds_toArray, List.set_cons_zero, List.set_cons_succ])
    refine rdy1 15 (fun K hK => ?_)
    go_simp; (skip; go_at_call 31; (with_reducible refine (l2Dec_v _ a3 q3.out).mono ?_); rintro e w9 ⟨rfl, f9⟩; replace S := S.fr f9; clear f9)
    (first | refine hK.out _ _ (S.sub subA) (fun _ => ?_) | (go_wp2_with fail; refine hK.out _ _ (S.sub subA) (fun _ => ?_)))
    clear hK K
    (try simp only [Act.put, List.setIfInBounds_toArray, List.set_cons_zero, List.set_cons_succ])
    refine rdy1 19 (fun K hK => ?_)
    go_simp; (skip; go_at_call 31; (with_reducible refine (l2Dec_v _ a4 q4.out).mono ?_); rintro e w9 ⟨rfl, f9⟩; replace S := S.fr f9; clear f9)
    (first | refine hK.out _ _ (S.sub subA) (fun _ => ?_) | (go_wp2_with fail; refine hK.out _ _ (S.sub subA) (fun _ => ?_)))
    clear hK K
    (try simp only [Act.put, List.setIfInBounds_toArray, List.set_cons_zero, List.set_cons_succ])
    refine rdy1 23 (fun K hK => ?_)
    go_simp; (skip; go_at_call 31; (with_reducible refine (l2Dec_v _ a5 q5.out).mono ?_); rintro e w9 ⟨rfl, f9⟩; replace S := S.fr f9; clear f9)
    (first | refine hK.out _ _ (S.sub subA) (fun _ => ?_) | (go_wp2_with fail; refine hK.out _ _ (S.sub subA) (fun _ => ?_)))
    clear hK K
    (try simp only [Act.put, List.setIfInBounds_toArray, List.set_cons_zero, List.set_cons_succ])
    refine rdy1 27 (fun K hK => ?_)
    go_simp; (skip; go_at_call 31; (with_reducible refine (l2Dec_v _ a6 q6.out).mono ?_); rintro e w9 ⟨rfl, f9⟩; replace S := S.fr f9; clear f9)
    (first | refine hK.out _ _ (S.sub subA) (fun _ => ?_) | (go_wp2_with fail; refine hK.out _ _ (S.sub subA) (fun _ => ?_)))
    clear hK K
    (try simp only [Act.put, List.setIfInBounds_toArray, List.set_cons_zero, List.set_cons_succ])
    refine tk 28 ?_
    (try simp only [Act.put, List.setIfInBounds_toArray, List.set_cons_zero, List.set_cons_succ])
    refine rdy1 30 (fun K hK => ?_)
    (first | refine rgS1 S ?_ | refine rgSt S ?_ | refine rgSp S ?_); clear S; intro w9 S
    (first | refine hK.out _ _ (S.sub subA) (fun _ => ?_) | (go_wp2_with fail; refine hK.out _ _ (S.sub subA) (fun _ => ?_)))
    clear hK K
    (try simp only [Act.put, List.setIfInBounds_toArray, List.set_cons_zero, List.set_cons_succ])
    refine wpAnyH_done (by kernel_rfl) ?_ _
    refine NoPanic.normal ?_
    go_wp2_with (first | (go_at_call 11; go_loud ((with_reducible refine (sPacketText_v _ v0 v1 v2 v3 v4 v5 v6 ht.out).mono ?_); rintro e w9 ⟨rfl, f9⟩; replace S := S.fr f9; clear f9)) | ((with_reducible refine gate_box rfl ?_); refine aBx S ?_; clear S; intro g9 w9 z9 S) | ((with_reducible refine gate_alloc rfl ?_); refine aAl S ?_; clear S; intro g9 w9 z9 S) | ((with_reducible refine gate_load rfl ?_); first | refine aLd S ?_ | refine aPt S ?_ | refine aL1 S ?_) | ((with_reducible refine gate_st rfl ?_); (first | refine aS1 S ?_ | refine aSt S ?_ | refine aSp S ?_); clear S; intro w9 S))
    (refine Sep.ret1_1 S rfl rfl memA Tryd.underlying24 rfl ts24 rfl rfl ?_)
    exact ⟨rfl, S.frame⟩
  refine rdc 29 (fun K hK => ?_) AllReadyH.nil
  refine rgAl S ?_; clear S; intro g9 w9 z9 S
  (first | refine hK.out _ _ (S.sub subA) (fun _ => ?_) | (go_wp2_with fail; refine hK.out _ _ (S.sub subA) (fun _ => ?_)))
  clear hK K
  (try simp only [Act.put, List.setIfInBounds_toArray, List.set_cons_zero, List.set_cons_succ])
  refine rdy1 3 (fun K hK => ?_)
  go_simp; (skip; go_at_call 31; (with_reducible refine (l2Dec_v _ a0 q0.out).mono ?_); rintro e w9 ⟨rfl, f9⟩; replace S := S.fr f9; clear f9)
  (first | refine hK.out _ _ (S.sub subA) (fun _ => ?_) | (go_wp2_with fail; refine hK.out _ _ (S.sub subA) (fun _ => ?_)))
  clear hK K
  (try simp only [Act.put, List.setIfInBounds_toArray, List.set_cons_zero, List.set_cons_succ])
  refine rdy1 7 (fun K hK => ?_)
  go_simp; (skip; go_at_call 31; (with_reducible refine (l2Dec_v _ a1 q1.out).mono ?_); rintro e w9 ⟨rfl, f9⟩; replace S := S.fr f9; clear f9)
  (first | refine hK.out _ _ (S.sub subA) (fun _ => ?_) | (go_wp2_with fail; refine hK.out _ _ (S.sub subA) (fun _ => ?_)))
  clear hK K
  (try simp only [Act.put, List.setIfInBounds_toArray, List.set_cons_zero, List.set_cons_succ])
  refine rdy1 11 (fun K hK => ?_)
  go_simp; (skip; go_at_call 31; (with_reducible refine (l2Dec_v _ a2 q2.out).mono ?_); rintro e w9 ⟨rfl, f9⟩; replace S := S.fr f9; clear f9)
  (first | refine hK.out _ _ (S.sub subA) (fun _ => ?_) | (go_wp2_with fail; refine hK.out _ _ (S.sub subA) (fun _ => ?_)))
  clear hK K
  (try simp only [Act.put, List.setIfInBounds_toArray, List.set_cons_zero, List.set_cons_succ])
  refine rdy1 15 (fun K hK => ?_)
  go_simp; (skip; go_at_call 31; (with_reducible refine (l2Dec_v _ a3 q3.out).mono ?_); rintro e w9 ⟨rfl, f9⟩; replace S := S.fr f9; clear f9)
  (first | refine hK.out _ _ (S.sub subA) (fun _ => ?_) | (go_wp2_with fail; refine hK.out _ _ (S.sub subA) (fun _ => ?_)))
  clear hK K
  (try simp only [Act.put, List.setIfInBounds_toArray, List.set_cons_zero, List.set_cons_succ])
  refine rdy1 19 (fun K hK => ?_)
  go_simp; (skip; go_at_call 31; (with_reducible refine (l2Dec_v _ a4 q4.out).mono ?_); rintro e w9 ⟨rfl, f9⟩; replace S := S.fr f9; clear f9)
  (first | refine hK.out _ _ (S.sub subA) (fun _ => ?_) | (go_wp2_with fail; refine hK.out _ _ (S.sub subA) (fun _ => ?_)))
  clear hK K
  (try simp only [Act.put, List.setIfInBounds_toArray, List.set_cons_zero, List.set_cons_succ])
  refine rdy1 23 (fun K hK => ?_)
  go_simp; (skip; go_at_call 31; (with_reducible refine (l2Dec_v _ a5 q5.out).mono ?_); rintro e w9 ⟨rfl, f9⟩; replace S := S.fr f9; clear f9)
  (first | refine hK.out _ _ (S.sub subA) (fun _ => ?_) | (go_wp2_with fail; refine hK.out _ _ (S.sub subA) (fun _ => ?_)))
  clear hK K
  (try simp only [Act.put, List.setIfInBounds_toArray, List.set_cons_zero, List.set_cons_succ])
  refine rdy1 27 (fun K hK => ?_)
  go_simp; (skip; go_at_call 31; (with_reducible refine (l2Dec_v _ a6 q6.out).mono ?_); rintro e w9 ⟨rfl, f9⟩; replace S := S.fr f9; clear f9)
  (first | refine hK.out _ _ (S.sub subA) (fun _ => ?_) | (go_wp2_with fail; refine hK.out _ _ (S.sub subA) (fun _ => ?_)))
  clear hK K
  (try simp only [Act.put, List.setIfInBounds_toArray, List.set_cons_zero, List.set_cons_succ])
  refine tk 28 ?_
  (try simp only [Act.put, List.setIfInBounds_toArray, List.set_cons_zero, List.set_cons_succ])
  refine rdy1 30 (fun K hK => ?_)
  (first | refine rgS1 S ?_ | refine rgSt S ?_ | refine rgSp S ?_); clear S; intro w9 S
  (first | refine hK.out _ _ (S.sub subA) (fun _ => ?_) | (go_wp2_with fail; refine hK.out _ _ (S.sub subA) (fun _ => ?_)))
  clear hK K
  (try simp only [Act.put, List.setIfInBounds_toArray, List.set_cons_zero, List.set_cons_succ])
  refine wpAnyH_done (by kernel_rfl) ?_ _
  refine NoPanic.normal ?_
  go_wp2_with (first | (go_at_call 11; go_loud ((with_reducible refine (sPacketText_v _ v0 v1 v2 v3 v4 v5 v6 ht.out).mono ?_); rintro e w9 ⟨rfl, f9⟩; replace S := S.fr f9; clear f9)) | ((with_reducible refine gate_box rfl ?_); refine aBx S ?_; clear S; intro g9 w9 z9 S) | ((with_reducible refine gate_alloc rfl ?_); refine aAl S ?_; clear S; intro g9 w9 z9 S) | ((with_reducible refine gate_load rfl ?_); first | refine aLd S ?_ | refine aPt S ?_ | refine aL1 S ?_) | ((with_reducible refine gate_st rfl ?_); (first | refine aS1 S ?_ | refine aSt S ?_ | refine aSp S ?_); clear S; intro w9 S))
  (refine Sep.ret1_1 S rfl rfl memA Tryd.underlying24 rfl ts24 rfl rfl ?_)
  exact ⟨rfl, S.frame⟩
theorem sPacketRead_c (w : World) (s : List UInt8) : Calls Tryd.prog 13 #[.string ⟨s.toArray⟩] w (Ret (.tuple #[.agg (rdV s).1.cells.toArray, .bool (rdV s).2]) w) := by
  by_cases hl : 24 < s.length
  · rw [rdV_no (s := s) (fun p hp e2 => by have := txt_len (okPk_small hp); rw [e2] at this; omega)]
    exact sRead_long w s hl
  have hl2 : s.length ≤ 24 := by omega
  by_cases hn : (cutA [] s).length = 7
  rotate_left
  · rw [rdV_no (s := s) (fun p hp e2 => hn (by rw [← e2, txt_cut (okPk_small hp)]; rfl))]
    exact sRead_len w s hl2 hn
  have hs : ¬ s = [] := fun e => by subst e; simp [cutA] at hn
  match hw : cutA [] s, hn with
  | [a0, a1, a2, a3, a4, a5, a6], _ =>
    by_cases hc : txtV ⟨decV a0, decV a1, decV a2, decV a3, decV a4, decV a5, decV a6⟩ = s
    · have hk : okPk ⟨decV a0, decV a1, decV a2, decV a3, decV a4, decV a5, decV a6⟩ = true := by
        cases e : okPk ⟨decV a0, decV a1, decV a2, decV a3, decV a4, decV a5, decV a6⟩ with
        | true => rfl
        | false => unfold txtV at hc; rw [e] at hc; exact absurd hc.symm hs
      have ht : txt ⟨decV a0, decV a1, decV a2, decV a3, decV a4, decV a5, decV a6⟩ = s := by unfold txtV at hc; rw [hk, if_pos rfl] at hc; exact hc
      have hr : rdV s = (⟨decV a0, decV a1, decV a2, decV a3, decV a4, decV a5, decV a6⟩, true) := by rw [← ht]; exact rdV_yes hk
      rw [hr]
      exact sRead_yes w s hl2 hs a0 a1 a2 a3 a4 a5 a6 hw _ _ _ _ _ _ _ rfl rfl rfl rfl rfl rfl rfl _ hc rfl
    · have hr : rdV s = (zeroPk, false) := by
        unfold rdV
        rw [hw]
        refine if_neg fun k => hc ?_
        unfold txtV
        have k1 : okPk ⟨decV a0, decV a1, decV a2, decV a3, decV a4, decV a5, decV a6⟩ = true := k.1
        rw [k1, if_pos rfl]
        exact k.2
      rw [hr]
      exact sRead_no w s hl2 hs a0 a1 a2 a3 a4 a5 a6 hw _ _ _ _ _ _ _ rfl rfl rfl rfl rfl rfl rfl _ rfl hc
end Go.Proofs.YtphojlkljlnfjaaDoor
