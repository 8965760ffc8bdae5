/- The reference's l2Cut. -/
import Derived.Test.YtphojlkljlnfjaaDoorOwnT
import Derived.Test.YtphojlkljlnfjaaDoorDec
namespace Go.Proofs.YtphojlkljlnfjaaDoor
set_option maxRecDepth 100000
set_option linter.unusedVariables false
set_option linter.unusedSimpArgs false
open Go.RowKit
theorem cutA_snoc : ∀ (s cur : List UInt8) (c : UInt8), c ≠ 32 → ∃ Y z, cutA cur s = Y ++ [z] ∧ cutA cur (s ++ [c]) = Y ++ [z ++ [c]] ∧ z.length ≤ cur.length + s.length
  | [], cur, c, h => ⟨[], cur, rfl, by simp [cutA, h], by simp⟩
  | d :: s, cur, c, h => by
    rw [List.cons_append, cutA, cutA]
    by_cases hd : d = 32
    · rw [if_pos hd, if_pos hd]
      obtain ⟨Y, z, e1, e2, e3⟩ := cutA_snoc s [] c h
      exact ⟨cur :: Y, z, by rw [e1]; rfl, by rw [e2]; rfl, by simp at e3 ⊢; omega⟩
    · rw [if_neg hd, if_neg hd]
      obtain ⟨Y, z, e1, e2, e3⟩ := cutA_snoc s (cur ++ [d]) c h
      exact ⟨Y, z, e1, e2, by simp at e3 ⊢; omega⟩
theorem cutA_blankEnd : ∀ (s cur : List UInt8), cutA cur (s ++ [32]) = cutA cur s ++ [[]]
  | [], cur => by simp [cutA]
  | c :: s, cur => by
    rw [List.cons_append, cutA, cutA]
    split
    · rw [cutA_blankEnd s []]; rfl
    · rw [cutA_blankEnd s _]
theorem cutA_many : ∀ (s cur : List UInt8), (cutA cur s).length ≤ s.length + 1
  | [], cur => by simp [cutA]
  | c :: s, cur => by
    rw [cutA]
    split
    · have := cutA_many s []; simp; omega
    · have := cutA_many s (cur ++ [c]); simp; omega
theorem idxS (s : List UInt8) (k : Nat) (h : k < s.length) (W : World) : (Instr.index 9 (.string ⟨s.toArray⟩) (.int .i64 k)).run Tryd.prog W = .ok (.int .u8 ((s[k]).toNat : Int)) W := by
  rw [run_index_string (h := Tryd.underlying9), dif_pos ⟨by omega, by simp [ByteArray.size]; omega⟩]
  rfl
theorem tsL : (Tryd.prog.info? 9).map (·.size) = some 1 := by kernel_rfl
theorem orow_some {A : Option Addr} {n c e : Nat} {xs : List (List UInt8)} {F : List Nat} {w : World} (h : tStr.orow e w (.slice A n c) xs F) (hn : 0 < n) : ∃ g, A = some ⟨g, 0, none⟩ := by
  obtain ⟨_, inner, F2, hown, _, _⟩ := h
  rcases hown.2 with ⟨h0, _⟩ | ⟨g', cap', cur, h0, _⟩
  · cases h0; omega
  · cases h0; exact ⟨g', rfl⟩
theorem cutA_pos : ∀ (s cur : List UInt8), 0 < (cutA cur s).length
  | [], cur => by simp [cutA]
  | c :: s, cur => by
    rw [cutA]
    split
    · simp
    · exact cutA_pos s _
theorem set_last (Y : List (List UInt8)) (z x : List UInt8) : (Y ++ [z]).set Y.length x = Y ++ [x] := by simp
section
variable {ops : Array Oper} {o : Oper} {a : Act} {w0 : World} {F0 : List Nat} {L : List Asrt}
theorem rgLast {W : World} {K : Act → World → Prop} {Q : Exit → Act → World → Prop} {Y : List (List UInt8)} {z : List UInt8} {g n cap e : Nat} {F : List Nat} {x : Operand} (S : Sep F0 w0 L W) (hm : aRow tStr e (Y ++ [z]) (.slice (some ⟨g, 0, none⟩) n cap) F ∈ L) (h : K (a.put o.dst (.string ⟨z.toArray⟩)) W) (hw : Region.wanted o (yielded ops a.tmps) = true := by exact rfl) (ho : o.op = .load 9 x := by exact rfl) (hx : a.eval x = .pointer (some ⟨g, Y.length, none⟩) := by exact rfl) : if Region.wanted o (yielded ops a.tmps) = true then Oper.wp Tryd.prog o a W K Q else K (a.put o.dst undef) W := by
  refine step_srowld (P := Tryd.prog) one_tStr S hw 9 x ho hx hm (i := Y.length) (by simp) _ Tryd.underlying9 rfl ?_
  simpa using h
end
set_option maxHeartbeats 6400000 in
theorem l2Cut_c (w : World) (s : List UInt8) (hl : s.length ≤ 24) : Calls Tryd.prog 30 #[.string ⟨s.toArray⟩, .int .u8 32] w (RetRow tStr 9 (cutA [] s) w) := by
  have S := Sep.start w
  go_enter Tryd.func30, Tryd.ntmps30
  go_wp2_with (first | ((with_reducible refine gate_dst (N := 7) rfl ?_); go_loud (refine aStr1 [] S ?_); clear S; intro g9 w9 z9 S))
  go_loopw [5, 6] (fun v i wr => ∃ (k : Nat) (g n c : Nat) (F : List Nat), k ≤ s.length ∧ i = .int .i64 k ∧ v = .slice (some ⟨g, 0, none⟩) n c ∧ n = (cutA [] (s.take k)).length ∧ Sep [] w [aRow tStr 9 (cutA [] (s.take k)) (.slice (some ⟨g, 0, none⟩) n c) F] wr) (fun _ i _ => s.length - (intOf i).toNat)
  case atStart => exact ⟨0, g9, 1, 1, [g9], Nat.zero_le _, rfl, rfl, rfl, S⟩
  case round =>
    clear S
    obtain ⟨k, g, n, c, F, hk, rfl, rfl, hn, S⟩ := hrel
    by_cases hlt : k < s.length
    · have hI := idxS s k hlt
      have hT : s.take (k + 1) = s.take k ++ [s[k]] := by rw [List.take_succ_eq_append_getElem hlt]
      by_cases h32 : s[k] = 32
      · have d1 : (((s[k]).toNat : Int) == 32) = true := by rw [h32]; rfl
        replace hT := Lib.hid hT
        replace h32 := Lib.hid h32
        replace hn := Lib.hid hn
        go_wp2_with (first
          | ((with_reducible refine gate_dst (N := 20) rfl ?_); go_loud (refine aStr1 [] S ?_); clear S; intro g9 w9 z9 S)
          | ((with_reducible refine gate_dst (N := 21) rfl ?_); go_loud (refine aApO (us := cutA [] (s.take (k + 1))) S (.tail _ (.head _ _)) (.head _ _) (.inl (by decide)) (by have := cutA_many (s.take k) []; rw [List.length_take] at this; omega) ?_ (hus := by rw [hT.out, h32.out, cutA_blankEnd])); clear S; intro A' c' F' w9 S))
        obtain ⟨g2, rfl⟩ := orow_some (S.row List.mem_cons_self) (cutA_pos _ _)
        exact ⟨⟨k + 1, g2, _, c', F', by omega, by simp, rfl, rfl, S.sub (List.Sublist.cons_cons _ (List.nil_sublist _))⟩, by simp [intOf]; omega⟩
      · have d1 : (((s[k]).toNat : Int) == 32) = false := by
          have : (s[k]).toNat ≠ 32 := fun e => h32 (UInt8.toNat_inj.1 e)
          simp; omega
        obtain ⟨Y, z, e1, e2, e3⟩ := cutA_snoc (s.take k) [] (s[k]) h32
        rw [e1] at S hn
        have hnY : n = Y.length + 1 := by simpa using hn
        have hm : Y.length < n := by omega
        have wn : IntKind.i64.wrap ((n : Int) - 1) = (Y.length : Int) := by rw [hnY]; exact (IntWalk.i64_in _ (by have := cutA_many (s.take k) []; rw [e1] at this; simp at this; omega)).trans (by omega)
        have HV := Lib.hid (show (Y ++ [z]).set Y.length (z ++ [s[k]]) = cutA [] (s.take (k + 1)) by rw [hT, e2]; exact set_last Y z _)
        have HN := Lib.hid (show n = (cutA [] (s.take (k + 1))).length by rw [hT, e2, hnY]; simp)
        have L9 := Lib.hid (show z.length + [s[k]].length ≤ 1000000 by simp at e3 ⊢; omega)
        replace hT := Lib.hid hT
        replace hn := Lib.hid hn
        replace hnY := Lib.hid hnY
        clear e1 e2 e3 h32
        go_wp2_with fail
        have S0 := S.sub (List.nil_sublist _)
        refine wp_region_noPanic ?_
        refine wp_region_held_drew (S := Sep _ _ _) (by kernel_rfl) S0.drew (fun _ => ?_)
        replace S := S.drew
        clear S0
        refine tk 0 ?_
        (try simp only [Act.put, List.setIfInBounds_toArray, List.set_cons_zero, List.set_cons_succ])
        refine tk 1 ?_
        (try simp only [Act.put, List.setIfInBounds_toArray, List.set_cons_zero, List.set_cons_succ])
        refine tk 4 ?_
        (try simp only [Act.put, List.setIfInBounds_toArray, List.set_cons_zero, List.set_cons_succ])
        refine tk 5 ?_
        (try simp only [Act.put, List.setIfInBounds_toArray, List.set_cons_zero, List.set_cons_succ])
        refine tk 10 ?_
        (try simp only [Act.put, List.setIfInBounds_toArray, List.set_cons_zero, List.set_cons_succ])
        refine tk 11 ?_
        (try simp only [Act.put, List.setIfInBounds_toArray, List.set_cons_zero, List.set_cons_succ])
        refine rdys [2, 6, 12] ?_
        refine rdc 2 (fun K hK => ?_) ?_
        · go_simp
          (first | refine hK.out _ _ (S.sub subA) (fun _ => ?_) | (go_wp2_with fail; refine hK.out _ _ (S.sub subA) (fun _ => ?_)))
          clear hK K
          (try simp only [Act.put, List.setIfInBounds_toArray, List.set_cons_zero, List.set_cons_succ])
          refine tk 3 ?_
          (try simp only [Act.put, List.setIfInBounds_toArray, List.set_cons_zero, List.set_cons_succ])
          refine rdys [6, 12] ?_
          refine rdc 6 (fun K hK => ?_) ?_
          · go_simp
            (first | refine hK.out _ _ (S.sub subA) (fun _ => ?_) | (go_wp2_with fail; refine hK.out _ _ (S.sub subA) (fun _ => ?_)))
            clear hK K
            (try simp only [Act.put, List.setIfInBounds_toArray, List.set_cons_zero, List.set_cons_succ])
            refine tk 7 ?_
            (try simp only [Act.put, List.setIfInBounds_toArray, List.set_cons_zero, List.set_cons_succ])
            refine tk 8 ?_
            (try simp only [Act.put, List.setIfInBounds_toArray, List.set_cons_zero, List.set_cons_succ])
            refine rdys [9, 12] ?_
            refine rdc 9 (fun K hK => ?_) ?_
            · refine rgLast S memA ?_
              (first | refine hK.out _ _ (S.sub subA) (fun _ => ?_) | (go_wp2_with fail; refine hK.out _ _ (S.sub subA) (fun _ => ?_)))
              clear hK K
              (try simp only [Act.put, List.setIfInBounds_toArray, List.set_cons_zero, List.set_cons_succ])
              refine rdy1 12 (fun K hK => ?_)
              go_simp
              (first | refine hK.out _ _ (S.sub subA) (fun _ => ?_) | (go_wp2_with fail; refine hK.out _ _ (S.sub subA) (fun _ => ?_)))
              clear hK K
              (try simp only [Act.put, List.setIfInBounds_toArray, List.set_cons_zero, List.set_cons_succ])
              refine rdy1 13 (fun K hK => ?_)
              refine rgByte (s[k]) S ?_; clear S; intro g9 w9 S
              (first | refine hK.out _ _ (S.sub subA) (fun _ => ?_) | (go_wp2_with fail; refine hK.out _ _ (S.sub subA) (fun _ => ?_)))
              clear hK K
              (try simp only [Act.put, List.setIfInBounds_toArray, List.set_cons_zero, List.set_cons_succ])
              refine rdy1 14 (fun K hK => ?_)
              refine rgConv1 S memA ?_
              (first | refine hK.out _ _ (S.sub subA) (fun _ => ?_) | (go_wp2_with fail; refine hK.out _ _ (S.sub subA) (fun _ => ?_)))
              clear hK K
              (try simp only [Act.put, List.setIfInBounds_toArray, List.set_cons_zero, List.set_cons_succ])
              refine tk 15 ?_ (hy := by exact yAdd L9.out)
              (try simp only [Act.put, List.setIfInBounds_toArray, List.set_cons_zero, List.set_cons_succ])
              refine tk 16 ?_
              (try simp only [Act.put, List.setIfInBounds_toArray, List.set_cons_zero, List.set_cons_succ])
              refine rdy1 17 (fun K hK => ?_)
              refine step_srowst one_tStr S (by rfl) 9 _ _ rfl rfl (z ++ [s[k]]) rfl tsL memA (by simp) HV.out putA ?_; clear S; intro w9 S
              (first | refine hK.out _ _ (S.sub subA) (fun _ => ?_) | (go_wp2_with fail; refine hK.out _ _ (S.sub subA) (fun _ => ?_)))
              clear hK K
              (try simp only [Act.put, List.setIfInBounds_toArray, List.set_cons_zero, List.set_cons_succ])
              refine wpAnyH_done (by kernel_rfl) ?_ _
              refine NoPanic.normal ?_
              go_wp2
              exact ⟨⟨k + 1, g, n, c, F, by omega, by simp, rfl, HN.out, S.sub subA⟩, by simp [intOf]; omega⟩
            refine rdc 12 (fun K hK => ?_) AllReadyH.nil
            go_simp
            (first | refine hK.out _ _ (S.sub subA) (fun _ => ?_) | (go_wp2_with fail; refine hK.out _ _ (S.sub subA) (fun _ => ?_)))
            clear hK K
            (try simp only [Act.put, List.setIfInBounds_toArray, List.set_cons_zero, List.set_cons_succ])
            refine rdys [9, 13] ?_
            refine rdc 9 (fun K hK => ?_) ?_
            · refine rgLast S memA ?_
              (first | refine hK.out _ _ (S.sub subA) (fun _ => ?_) | (go_wp2_with fail; refine hK.out _ _ (S.sub subA) (fun _ => ?_)))
              clear hK K
              (try simp only [Act.put, List.setIfInBounds_toArray, List.set_cons_zero, List.set_cons_succ])
              refine rdy1 13 (fun K hK => ?_)
              refine rgByte (s[k]) S ?_; clear S; intro g9 w9 S
              (first | refine hK.out _ _ (S.sub subA) (fun _ => ?_) | (go_wp2_with fail; refine hK.out _ _ (S.sub subA) (fun _ => ?_)))
              clear hK K
              (try simp only [Act.put, List.setIfInBounds_toArray, List.set_cons_zero, List.set_cons_succ])
              refine rdy1 14 (fun K hK => ?_)
              refine rgConv1 S memA ?_
              (first | refine hK.out _ _ (S.sub subA) (fun _ => ?_) | (go_wp2_with fail; refine hK.out _ _ (S.sub subA) (fun _ => ?_)))
              clear hK K
              (try simp only [Act.put, List.setIfInBounds_toArray, List.set_cons_zero, List.set_cons_succ])
              refine tk 15 ?_ (hy := by exact yAdd L9.out)
              (try simp only [Act.put, List.setIfInBounds_toArray, List.set_cons_zero, List.set_cons_succ])
              refine tk 16 ?_
              (try simp only [Act.put, List.setIfInBounds_toArray, List.set_cons_zero, List.set_cons_succ])
              refine rdy1 17 (fun K hK => ?_)
              refine step_srowst one_tStr S (by rfl) 9 _ _ rfl rfl (z ++ [s[k]]) rfl tsL memA (by simp) HV.out putA ?_; clear S; intro w9 S
              (first | refine hK.out _ _ (S.sub subA) (fun _ => ?_) | (go_wp2_with fail; refine hK.out _ _ (S.sub subA) (fun _ => ?_)))
              clear hK K
              (try simp only [Act.put, List.setIfInBounds_toArray, List.set_cons_zero, List.set_cons_succ])
              refine wpAnyH_done (by kernel_rfl) ?_ _
              refine NoPanic.normal ?_
              go_wp2
              exact ⟨⟨k + 1, g, n, c, F, by omega, by simp, rfl, HN.out, S.sub subA⟩, by simp [intOf]; omega⟩
            refine rdc 13 (fun K hK => ?_) AllReadyH.nil
            refine rgByte (s[k]) S ?_; clear S; intro g9 w9 S
            (first | refine hK.out _ _ (S.sub subA) (fun _ => ?_) | (go_wp2_with fail; refine hK.out _ _ (S.sub subA) (fun _ => ?_)))
            clear hK K
            (try simp only [Act.put, List.setIfInBounds_toArray, List.set_cons_zero, List.set_cons_succ])
            refine rdys [9, 14] ?_
            refine rdc 9 (fun K hK => ?_) ?_
            · refine rgLast S memA ?_
              (first | refine hK.out _ _ (S.sub subA) (fun _ => ?_) | (go_wp2_with fail; refine hK.out _ _ (S.sub subA) (fun _ => ?_)))
              clear hK K
              (try simp only [Act.put, List.setIfInBounds_toArray, List.set_cons_zero, List.set_cons_succ])
              refine rdy1 14 (fun K hK => ?_)
              refine rgConv1 S memA ?_
              (first | refine hK.out _ _ (S.sub subA) (fun _ => ?_) | (go_wp2_with fail; refine hK.out _ _ (S.sub subA) (fun _ => ?_)))
              clear hK K
              (try simp only [Act.put, List.setIfInBounds_toArray, List.set_cons_zero, List.set_cons_succ])
              refine tk 15 ?_ (hy := by exact yAdd L9.out)
              (try simp only [Act.put, List.setIfInBounds_toArray, List.set_cons_zero, List.set_cons_succ])
              refine tk 16 ?_
              (try simp only [Act.put, List.setIfInBounds_toArray, List.set_cons_zero, List.set_cons_succ])
              refine rdy1 17 (fun K hK => ?_)
              refine step_srowst one_tStr S (by rfl) 9 _ _ rfl rfl (z ++ [s[k]]) rfl tsL memA (by simp) HV.out putA ?_; clear S; intro w9 S
              (first | refine hK.out _ _ (S.sub subA) (fun _ => ?_) | (go_wp2_with fail; refine hK.out _ _ (S.sub subA) (fun _ => ?_)))
              clear hK K
              (try simp only [Act.put, List.setIfInBounds_toArray, List.set_cons_zero, List.set_cons_succ])
              refine wpAnyH_done (by kernel_rfl) ?_ _
              refine NoPanic.normal ?_
              go_wp2
              exact ⟨⟨k + 1, g, n, c, F, by omega, by simp, rfl, HN.out, S.sub subA⟩, by simp [intOf]; omega⟩
            refine rdc 14 (fun K hK => ?_) AllReadyH.nil
            refine rgConv1 S memA ?_
            (first | refine hK.out _ _ (S.sub subA) (fun _ => ?_) | (go_wp2_with fail; refine hK.out _ _ (S.sub subA) (fun _ => ?_)))
            clear hK K
            (try simp only [Act.put, List.setIfInBounds_toArray, List.set_cons_zero, List.set_cons_succ])
            refine rdy1 9 (fun K hK => ?_)
            refine rgLast S memA ?_
            (first | refine hK.out _ _ (S.sub subA) (fun _ => ?_) | (go_wp2_with fail; refine hK.out _ _ (S.sub subA) (fun _ => ?_)))
            clear hK K
            (try simp only [Act.put, List.setIfInBounds_toArray, List.set_cons_zero, List.set_cons_succ])
            refine tk 15 ?_ (hy := by exact yAdd L9.out)
            (try simp only [Act.put, List.setIfInBounds_toArray, List.set_cons_zero, List.set_cons_succ])
            refine tk 16 ?_
            (try simp only [Act.put, List.setIfInBounds_toArray, List.set_cons_zero, List.set_cons_succ])
            refine rdy1 17 (fun K hK => ?_)
            refine step_srowst one_tStr S (by rfl) 9 _ _ rfl rfl (z ++ [s[k]]) rfl tsL memA (by simp) HV.out putA ?_; clear S; intro w9 S
            (first | refine hK.out _ _ (S.sub subA) (fun _ => ?_) | (go_wp2_with fail; refine hK.out _ _ (S.sub subA) (fun _ => ?_)))
            clear hK K
            (try simp only [Act.put, List.setIfInBounds_toArray, List.set_cons_zero, List.set_cons_succ])
            refine wpAnyH_done (by kernel_rfl) ?_ _
            refine NoPanic.normal ?_
            go_wp2
            exact ⟨⟨k + 1, g, n, c, F, by omega, by simp, rfl, HN.out, S.sub subA⟩, by simp [intOf]; omega⟩
          refine rdc 12 (fun K hK => ?_) AllReadyH.nil
          go_simp
          (first | refine hK.out _ _ (S.sub subA) (fun _ => ?_) | (go_wp2_with fail; refine hK.out _ _ (S.sub subA) (fun _ => ?_)))
          clear hK K
          (try simp only [Act.put, List.setIfInBounds_toArray, List.set_cons_zero, List.set_cons_succ])
          refine rdys [6, 13] ?_
          refine rdc 6 (fun K hK => ?_) ?_
          · go_simp
            (first | refine hK.out _ _ (S.sub subA) (fun _ => ?_) | (go_wp2_with fail; refine hK.out _ _ (S.sub subA) (fun _ => ?_)))
            clear hK K
            (try simp only [Act.put, List.setIfInBounds_toArray, List.set_cons_zero, List.set_cons_succ])
            refine tk 7 ?_
            (try simp only [Act.put, List.setIfInBounds_toArray, List.set_cons_zero, List.set_cons_succ])
            refine tk 8 ?_
            (try simp only [Act.put, List.setIfInBounds_toArray, List.set_cons_zero, List.set_cons_succ])
            refine rdys [9, 13] ?_
            refine rdc 9 (fun K hK => ?_) ?_
            · refine rgLast S memA ?_
              (first | refine hK.out _ _ (S.sub subA) (fun _ => ?_) | (go_wp2_with fail; refine hK.out _ _ (S.sub subA) (fun _ => ?_)))
              clear hK K
              (try simp only [Act.put, List.setIfInBounds_toArray, List.set_cons_zero, List.set_cons_succ])
              refine rdy1 13 (fun K hK => ?_)
              refine rgByte (s[k]) S ?_; clear S; intro g9 w9 S
              (first | refine hK.out _ _ (S.sub subA) (fun _ => ?_) | (go_wp2_with fail; refine hK.out _ _ (S.sub subA) (fun _ => ?_)))
              clear hK K
              (try simp only [Act.put, List.setIfInBounds_toArray, List.set_cons_zero, List.set_cons_succ])
              refine rdy1 14 (fun K hK => ?_)
              refine rgConv1 S memA ?_
              (first | refine hK.out _ _ (S.sub subA) (fun _ => ?_) | (go_wp2_with fail; refine hK.out _ _ (S.sub subA) (fun _ => ?_)))
              clear hK K
              (try simp only [Act.put, List.setIfInBounds_toArray, List.set_cons_zero, List.set_cons_succ])
              refine tk 15 ?_ (hy := by exact yAdd L9.out)
              (try simp only [Act.put, List.setIfInBounds_toArray, List.set_cons_zero, List.set_cons_succ])
              refine tk 16 ?_
              (try simp only [Act.put, List.setIfInBounds_toArray, List.set_cons_zero, List.set_cons_succ])
              refine rdy1 17 (fun K hK => ?_)
              refine step_srowst one_tStr S (by rfl) 9 _ _ rfl rfl (z ++ [s[k]]) rfl tsL memA (by simp) HV.out putA ?_; clear S; intro w9 S
              (first | refine hK.out _ _ (S.sub subA) (fun _ => ?_) | (go_wp2_with fail; refine hK.out _ _ (S.sub subA) (fun _ => ?_)))
              clear hK K
              (try simp only [Act.put, List.setIfInBounds_toArray, List.set_cons_zero, List.set_cons_succ])
              refine wpAnyH_done (by kernel_rfl) ?_ _
              refine NoPanic.normal ?_
              go_wp2
              exact ⟨⟨k + 1, g, n, c, F, by omega, by simp, rfl, HN.out, S.sub subA⟩, by simp [intOf]; omega⟩
            refine rdc 13 (fun K hK => ?_) AllReadyH.nil
            refine rgByte (s[k]) S ?_; clear S; intro g9 w9 S
            (first | refine hK.out _ _ (S.sub subA) (fun _ => ?_) | (go_wp2_with fail; refine hK.out _ _ (S.sub subA) (fun _ => ?_)))
            clear hK K
            (try simp only [Act.put, List.setIfInBounds_toArray, List.set_cons_zero, List.set_cons_succ])
            refine rdys [9, 14] ?_
            refine rdc 9 (fun K hK => ?_) ?_
            · refine rgLast S memA ?_
              (first | refine hK.out _ _ (S.sub subA) (fun _ => ?_) | (go_wp2_with fail; refine hK.out _ _ (S.sub subA) (fun _ => ?_)))
              clear hK K
              (try simp only [Act.put, List.setIfInBounds_toArray, List.set_cons_zero, List.set_cons_succ])
              refine rdy1 14 (fun K hK => ?_)
              refine rgConv1 S memA ?_
              (first | refine hK.out _ _ (S.sub subA) (fun _ => ?_) | (go_wp2_with fail; refine hK.out _ _ (S.sub subA) (fun _ => ?_)))
              clear hK K
              (try simp only [Act.put, List.setIfInBounds_toArray, List.set_cons_zero, List.set_cons_succ])
              refine tk 15 ?_ (hy := by exact yAdd L9.out)
              (try simp only [Act.put, List.setIfInBounds_toArray, List.set_cons_zero, List.set_cons_succ])
              refine tk 16 ?_
              (try simp only [Act.put, List.setIfInBounds_toArray, List.set_cons_zero, List.set_cons_succ])
              refine rdy1 17 (fun K hK => ?_)
              refine step_srowst one_tStr S (by rfl) 9 _ _ rfl rfl (z ++ [s[k]]) rfl tsL memA (by simp) HV.out putA ?_; clear S; intro w9 S
              (first | refine hK.out _ _ (S.sub subA) (fun _ => ?_) | (go_wp2_with fail; refine hK.out _ _ (S.sub subA) (fun _ => ?_)))
              clear hK K
              (try simp only [Act.put, List.setIfInBounds_toArray, List.set_cons_zero, List.set_cons_succ])
              refine wpAnyH_done (by kernel_rfl) ?_ _
              refine NoPanic.normal ?_
              go_wp2
              exact ⟨⟨k + 1, g, n, c, F, by omega, by simp, rfl, HN.out, S.sub subA⟩, by simp [intOf]; omega⟩
            refine rdc 14 (fun K hK => ?_) AllReadyH.nil
            refine rgConv1 S memA ?_
            (first | refine hK.out _ _ (S.sub subA) (fun _ => ?_) | (go_wp2_with fail; refine hK.out _ _ (S.sub subA) (fun _ => ?_)))
            clear hK K
            (try simp only [Act.put, List.setIfInBounds_toArray, List.set_cons_zero, List.set_cons_succ])
            refine rdy1 9 (fun K hK => ?_)
            refine rgLast S memA ?_
            (first | refine hK.out _ _ (S.sub subA) (fun _ => ?_) | (go_wp2_with fail; refine hK.out _ _ (S.sub subA) (fun _ => ?_)))
            clear hK K
            (try simp only [Act.put, List.setIfInBounds_toArray, List.set_cons_zero, List.set_cons_succ])
            refine tk 15 ?_ (hy := by exact yAdd L9.out)
            (try simp only [Act.put, List.setIfInBounds_toArray, List.set_cons_zero, List.set_cons_succ])
            refine tk 16 ?_
            (try simp only [Act.put, List.setIfInBounds_toArray, List.set_cons_zero, List.set_cons_succ])
            refine rdy1 17 (fun K hK => ?_)
            refine step_srowst one_tStr S (by rfl) 9 _ _ rfl rfl (z ++ [s[k]]) rfl tsL memA (by simp) HV.out putA ?_; clear S; intro w9 S
            (first | refine hK.out _ _ (S.sub subA) (fun _ => ?_) | (go_wp2_with fail; refine hK.out _ _ (S.sub subA) (fun _ => ?_)))
            clear hK K
            (try simp only [Act.put, List.setIfInBounds_toArray, List.set_cons_zero, List.set_cons_succ])
            refine wpAnyH_done (by kernel_rfl) ?_ _
            refine NoPanic.normal ?_
            go_wp2
            exact ⟨⟨k + 1, g, n, c, F, by omega, by simp, rfl, HN.out, S.sub subA⟩, by simp [intOf]; omega⟩
          refine rdc 13 (fun K hK => ?_) AllReadyH.nil
          refine rgByte (s[k]) S ?_; clear S; intro g9 w9 S
          (first | refine hK.out _ _ (S.sub subA) (fun _ => ?_) | (go_wp2_with fail; refine hK.out _ _ (S.sub subA) (fun _ => ?_)))
          clear hK K
          (try simp only [Act.put, List.setIfInBounds_toArray, List.set_cons_zero, List.set_cons_succ])
          refine rdys [6, 14] ?_
          refine rdc 6 (fun K hK => ?_) ?_
          · go_simp
            (first | refine hK.out _ _ (S.sub subA) (fun _ => ?_) | (go_wp2_with fail; refine hK.out _ _ (S.sub subA) (fun _ => ?_)))
            clear hK K
            (try simp only [Act.put, List.setIfInBounds_toArray, List.set_cons_zero, List.set_cons_succ])
            refine tk 7 ?_
            (try simp only [Act.put, List.setIfInBounds_toArray, List.set_cons_zero, List.set_cons_succ])
            refine tk 8 ?_
            (try simp only [Act.put, List.setIfInBounds_toArray, List.set_cons_zero, List.set_cons_succ])
            refine rdys [9, 14] ?_
            refine rdc 9 (fun K hK => ?_) ?_
            · refine rgLast S memA ?_
              (first | refine hK.out _ _ (S.sub subA) (fun _ => ?_) | (go_wp2_with fail; refine hK.out _ _ (S.sub subA) (fun _ => ?_)))
              clear hK K
              (try simp only [Act.put, List.setIfInBounds_toArray, List.set_cons_zero, List.set_cons_succ])
              refine rdy1 14 (fun K hK => ?_)
              refine rgConv1 S memA ?_
              (first | refine hK.out _ _ (S.sub subA) (fun _ => ?_) | (go_wp2_with fail; refine hK.out _ _ (S.sub subA) (fun _ => ?_)))
              clear hK K
              (try simp only [Act.put, List.setIfInBounds_toArray, List.set_cons_zero, List.set_cons_succ])
              refine tk 15 ?_ (hy := by exact yAdd L9.out)
              (try simp only [Act.put, List.setIfInBounds_toArray, List.set_cons_zero, List.set_cons_succ])
              refine tk 16 ?_
              (try simp only [Act.put, List.setIfInBounds_toArray, List.set_cons_zero, List.set_cons_succ])
              refine rdy1 17 (fun K hK => ?_)
              refine step_srowst one_tStr S (by rfl) 9 _ _ rfl rfl (z ++ [s[k]]) rfl tsL memA (by simp) HV.out putA ?_; clear S; intro w9 S
              (first | refine hK.out _ _ (S.sub subA) (fun _ => ?_) | (go_wp2_with fail; refine hK.out _ _ (S.sub subA) (fun _ => ?_)))
              clear hK K
              (try simp only [Act.put, List.setIfInBounds_toArray, List.set_cons_zero, List.set_cons_succ])
              refine wpAnyH_done (by kernel_rfl) ?_ _
              refine NoPanic.normal ?_
              go_wp2
              exact ⟨⟨k + 1, g, n, c, F, by omega, by simp, rfl, HN.out, S.sub subA⟩, by simp [intOf]; omega⟩
            refine rdc 14 (fun K hK => ?_) AllReadyH.nil
            refine rgConv1 S memA ?_
            (first | refine hK.out _ _ (S.sub subA) (fun _ => ?_) | (go_wp2_with fail; refine hK.out _ _ (S.sub subA) (fun _ => ?_)))
            clear hK K
            (try simp only [Act.put, List.setIfInBounds_toArray, List.set_cons_zero, List.set_cons_succ])
            refine rdy1 9 (fun K hK => ?_)
            refine rgLast S memA ?_
            (first | refine hK.out _ _ (S.sub subA) (fun _ => ?_) | (go_wp2_with fail; refine hK.out _ _ (S.sub subA) (fun _ => ?_)))
            clear hK K
            (try simp only [Act.put, List.setIfInBounds_toArray, List.set_cons_zero, List.set_cons_succ])
            refine tk 15 ?_ (hy := by exact yAdd L9.out)
            (try simp only [Act.put, List.setIfInBounds_toArray, List.set_cons_zero, List.set_cons_succ])
            refine tk 16 ?_
            (try simp only [Act.put, List.setIfInBounds_toArray, List.set_cons_zero, List.set_cons_succ])
            refine rdy1 17 (fun K hK => ?_)
            refine step_srowst one_tStr S (by rfl) 9 _ _ rfl rfl (z ++ [s[k]]) rfl tsL memA (by simp) HV.out putA ?_; clear S; intro w9 S
            (first | refine hK.out _ _ (S.sub subA) (fun _ => ?_) | (go_wp2_with fail; refine hK.out _ _ (S.sub subA) (fun _ => ?_)))
            clear hK K
            (try simp only [Act.put, List.setIfInBounds_toArray, List.set_cons_zero, List.set_cons_succ])
            refine wpAnyH_done (by kernel_rfl) ?_ _
            refine NoPanic.normal ?_
            go_wp2
            exact ⟨⟨k + 1, g, n, c, F, by omega, by simp, rfl, HN.out, S.sub subA⟩, by simp [intOf]; omega⟩
          refine rdc 14 (fun K hK => ?_) AllReadyH.nil
          refine rgConv1 S memA ?_
          (first | refine hK.out _ _ (S.sub subA) (fun _ => ?_) | (go_wp2_with fail; refine hK.out _ _ (S.sub subA) (fun _ => ?_)))
          clear hK K
          (try simp only [Act.put, List.setIfInBounds_toArray, List.set_cons_zero, List.set_cons_succ])
          refine rdy1 6 (fun K hK => ?_)
          go_simp
          (first | refine hK.out _ _ (S.sub subA) (fun _ => ?_) | (go_wp2_with fail; refine hK.out _ _ (S.sub subA) (fun _ => ?_)))
          clear hK K
          (try simp only [Act.put, List.setIfInBounds_toArray, List.set_cons_zero, List.set_cons_succ])
          refine tk 7 ?_
          (try simp only [Act.put, List.setIfInBounds_toArray, List.set_cons_zero, List.set_cons_succ])
          refine tk 8 ?_
          (try simp only [Act.put, List.setIfInBounds_toArray, List.set_cons_zero, List.set_cons_succ])
          refine rdy1 9 (fun K hK => ?_)
          refine rgLast S memA ?_
          (first | refine hK.out _ _ (S.sub subA) (fun _ => ?_) | (go_wp2_with fail; refine hK.out _ _ (S.sub subA) (fun _ => ?_)))
          clear hK K
          (try simp only [Act.put, List.setIfInBounds_toArray, List.set_cons_zero, List.set_cons_succ])
          refine tk 15 ?_ (hy := by exact yAdd L9.out)
          (try simp only [Act.put, List.setIfInBounds_toArray, List.set_cons_zero, List.set_cons_succ])
          refine tk 16 ?_
          (try simp only [Act.put, List.setIfInBounds_toArray, List.set_cons_zero, List.set_cons_succ])
          refine rdy1 17 (fun K hK => ?_)
          refine step_srowst one_tStr S (by rfl) 9 _ _ rfl rfl (z ++ [s[k]]) rfl tsL memA (by simp) HV.out putA ?_; clear S; intro w9 S
          (first | refine hK.out _ _ (S.sub subA) (fun _ => ?_) | (go_wp2_with fail; refine hK.out _ _ (S.sub subA) (fun _ => ?_)))
          clear hK K
          (try simp only [Act.put, List.setIfInBounds_toArray, List.set_cons_zero, List.set_cons_succ])
          refine wpAnyH_done (by kernel_rfl) ?_ _
          refine NoPanic.normal ?_
          go_wp2
          exact ⟨⟨k + 1, g, n, c, F, by omega, by simp, rfl, HN.out, S.sub subA⟩, by simp [intOf]; omega⟩
        refine rdc 6 (fun K hK => ?_) ?_
        · go_simp
          (first | refine hK.out _ _ (S.sub subA) (fun _ => ?_) | (go_wp2_with fail; refine hK.out _ _ (S.sub subA) (fun _ => ?_)))
          clear hK K
          (try simp only [Act.put, List.setIfInBounds_toArray, List.set_cons_zero, List.set_cons_succ])
          refine tk 7 ?_
          (try simp only [Act.put, List.setIfInBounds_toArray, List.set_cons_zero, List.set_cons_succ])
          refine tk 8 ?_
          (try simp only [Act.put, List.setIfInBounds_toArray, List.set_cons_zero, List.set_cons_succ])
          refine rdys [2, 9, 12] ?_
          refine rdc 2 (fun K hK => ?_) ?_
          · go_simp
            (first | refine hK.out _ _ (S.sub subA) (fun _ => ?_) | (go_wp2_with fail; refine hK.out _ _ (S.sub subA) (fun _ => ?_)))
            clear hK K
            (try simp only [Act.put, List.setIfInBounds_toArray, List.set_cons_zero, List.set_cons_succ])
            refine tk 3 ?_
            (try simp only [Act.put, List.setIfInBounds_toArray, List.set_cons_zero, List.set_cons_succ])
            refine rdys [9, 12] ?_
            refine rdc 9 (fun K hK => ?_) ?_
            · refine rgLast S memA ?_
              (first | refine hK.out _ _ (S.sub subA) (fun _ => ?_) | (go_wp2_with fail; refine hK.out _ _ (S.sub subA) (fun _ => ?_)))
              clear hK K
              (try simp only [Act.put, List.setIfInBounds_toArray, List.set_cons_zero, List.set_cons_succ])
              refine rdy1 12 (fun K hK => ?_)
              go_simp
              (first | refine hK.out _ _ (S.sub subA) (fun _ => ?_) | (go_wp2_with fail; refine hK.out _ _ (S.sub subA) (fun _ => ?_)))
              clear hK K
              (try simp only [Act.put, List.setIfInBounds_toArray, List.set_cons_zero, List.set_cons_succ])
              refine rdy1 13 (fun K hK => ?_)
              refine rgByte (s[k]) S ?_; clear S; intro g9 w9 S
              (first | refine hK.out _ _ (S.sub subA) (fun _ => ?_) | (go_wp2_with fail; refine hK.out _ _ (S.sub subA) (fun _ => ?_)))
              clear hK K
              (try simp only [Act.put, List.setIfInBounds_toArray, List.set_cons_zero, List.set_cons_succ])
              refine rdy1 14 (fun K hK => ?_)
              refine rgConv1 S memA ?_
              (first | refine hK.out _ _ (S.sub subA) (fun _ => ?_) | (go_wp2_with fail; refine hK.out _ _ (S.sub subA) (fun _ => ?_)))
              clear hK K
              (try simp only [Act.put, List.setIfInBounds_toArray, List.set_cons_zero, List.set_cons_succ])
              refine tk 15 ?_ (hy := by exact yAdd L9.out)
              (try simp only [Act.put, List.setIfInBounds_toArray, List.set_cons_zero, List.set_cons_succ])
              refine tk 16 ?_
              (try simp only [Act.put, List.setIfInBounds_toArray, List.set_cons_zero, List.set_cons_succ])
              refine rdy1 17 (fun K hK => ?_)
              refine step_srowst one_tStr S (by rfl) 9 _ _ rfl rfl (z ++ [s[k]]) rfl tsL memA (by simp) HV.out putA ?_; clear S; intro w9 S
              (first | refine hK.out _ _ (S.sub subA) (fun _ => ?_) | (go_wp2_with fail; refine hK.out _ _ (S.sub subA) (fun _ => ?_)))
              clear hK K
              (try simp only [Act.put, List.setIfInBounds_toArray, List.set_cons_zero, List.set_cons_succ])
              refine wpAnyH_done (by kernel_rfl) ?_ _
              refine NoPanic.normal ?_
              go_wp2
              exact ⟨⟨k + 1, g, n, c, F, by omega, by simp, rfl, HN.out, S.sub subA⟩, by simp [intOf]; omega⟩
            refine rdc 12 (fun K hK => ?_) AllReadyH.nil
            go_simp
            (first | refine hK.out _ _ (S.sub subA) (fun _ => ?_) | (go_wp2_with fail; refine hK.out _ _ (S.sub subA) (fun _ => ?_)))
            clear hK K
            (try simp only [Act.put, List.setIfInBounds_toArray, List.set_cons_zero, List.set_cons_succ])
            refine rdys [9, 13] ?_
            refine rdc 9 (fun K hK => ?_) ?_
            · refine rgLast S memA ?_
              (first | refine hK.out _ _ (S.sub subA) (fun _ => ?_) | (go_wp2_with fail; refine hK.out _ _ (S.sub subA) (fun _ => ?_)))
              clear hK K
              (try simp only [Act.put, List.setIfInBounds_toArray, List.set_cons_zero, List.set_cons_succ])
              refine rdy1 13 (fun K hK => ?_)
              refine rgByte (s[k]) S ?_; clear S; intro g9 w9 S
              (first | refine hK.out _ _ (S.sub subA) (fun _ => ?_) | (go_wp2_with fail; refine hK.out _ _ (S.sub subA) (fun _ => ?_)))
              clear hK K
              (try simp only [Act.put, List.setIfInBounds_toArray, List.set_cons_zero, List.set_cons_succ])
              refine rdy1 14 (fun K hK => ?_)
              refine rgConv1 S memA ?_
              (first | refine hK.out _ _ (S.sub subA) (fun _ => ?_) | (go_wp2_with fail; refine hK.out _ _ (S.sub subA) (fun _ => ?_)))
              clear hK K
              (try simp only [Act.put, List.setIfInBounds_toArray, List.set_cons_zero, List.set_cons_succ])
              refine tk 15 ?_ (hy := by exact yAdd L9.out)
              (try simp only [Act.put, List.setIfInBounds_toArray, List.set_cons_zero, List.set_cons_succ])
              refine tk 16 ?_
              (try simp only [Act.put, List.setIfInBounds_toArray, List.set_cons_zero, List.set_cons_succ])
              refine rdy1 17 (fun K hK => ?_)
              refine step_srowst one_tStr S (by rfl) 9 _ _ rfl rfl (z ++ [s[k]]) rfl tsL memA (by simp) HV.out putA ?_; clear S; intro w9 S
              (first | refine hK.out _ _ (S.sub subA) (fun _ => ?_) | (go_wp2_with fail; refine hK.out _ _ (S.sub subA) (fun _ => ?_)))
              clear hK K
              (try simp only [Act.put, List.setIfInBounds_toArray, List.set_cons_zero, List.set_cons_succ])
              refine wpAnyH_done (by kernel_rfl) ?_ _
              refine NoPanic.normal ?_
              go_wp2
              exact ⟨⟨k + 1, g, n, c, F, by omega, by simp, rfl, HN.out, S.sub subA⟩, by simp [intOf]; omega⟩
            refine rdc 13 (fun K hK => ?_) AllReadyH.nil
            refine rgByte (s[k]) S ?_; clear S; intro g9 w9 S
            (first | refine hK.out _ _ (S.sub subA) (fun _ => ?_) | (go_wp2_with fail; refine hK.out _ _ (S.sub subA) (fun _ => ?_)))
            clear hK K
            (try simp only [Act.put, List.setIfInBounds_toArray, List.set_cons_zero, List.set_cons_succ])
            refine rdys [9, 14] ?_
            refine rdc 9 (fun K hK => ?_) ?_
            · refine rgLast S memA ?_
              (first | refine hK.out _ _ (S.sub subA) (fun _ => ?_) | (go_wp2_with fail; refine hK.out _ _ (S.sub subA) (fun _ => ?_)))
              clear hK K
              (try simp only [Act.put, List.setIfInBounds_toArray, List.set_cons_zero, List.set_cons_succ])
              refine rdy1 14 (fun K hK => ?_)
              refine rgConv1 S memA ?_
              (first | refine hK.out _ _ (S.sub subA) (fun _ => ?_) | (go_wp2_with fail; refine hK.out _ _ (S.sub subA) (fun _ => ?_)))
              clear hK K
              (try simp only [Act.put, List.setIfInBounds_toArray, List.set_cons_zero, List.set_cons_succ])
              refine tk 15 ?_ (hy := by exact yAdd L9.out)
              (try simp only [Act.put, List.setIfInBounds_toArray, List.set_cons_zero, List.set_cons_succ])
              refine tk 16 ?_
              (try simp only [Act.put, List.setIfInBounds_toArray, List.set_cons_zero, List.set_cons_succ])
              refine rdy1 17 (fun K hK => ?_)
              refine step_srowst one_tStr S (by rfl) 9 _ _ rfl rfl (z ++ [s[k]]) rfl tsL memA (by simp) HV.out putA ?_; clear S; intro w9 S
              (first | refine hK.out _ _ (S.sub subA) (fun _ => ?_) | (go_wp2_with fail; refine hK.out _ _ (S.sub subA) (fun _ => ?_)))
              clear hK K
              (try simp only [Act.put, List.setIfInBounds_toArray, List.set_cons_zero, List.set_cons_succ])
              refine wpAnyH_done (by kernel_rfl) ?_ _
              refine NoPanic.normal ?_
              go_wp2
              exact ⟨⟨k + 1, g, n, c, F, by omega, by simp, rfl, HN.out, S.sub subA⟩, by simp [intOf]; omega⟩
            refine rdc 14 (fun K hK => ?_) AllReadyH.nil
            refine rgConv1 S memA ?_
            (first | refine hK.out _ _ (S.sub subA) (fun _ => ?_) | (go_wp2_with fail; refine hK.out _ _ (S.sub subA) (fun _ => ?_)))
            clear hK K
            (try simp only [Act.put, List.setIfInBounds_toArray, List.set_cons_zero, List.set_cons_succ])
            refine rdy1 9 (fun K hK => ?_)
            refine rgLast S memA ?_
            (first | refine hK.out _ _ (S.sub subA) (fun _ => ?_) | (go_wp2_with fail; refine hK.out _ _ (S.sub subA) (fun _ => ?_)))
            clear hK K
            (try simp only [Act.put, List.setIfInBounds_toArray, List.set_cons_zero, List.set_cons_succ])
            refine tk 15 ?_ (hy := by exact yAdd L9.out)
            (try simp only [Act.put, List.setIfInBounds_toArray, List.set_cons_zero, List.set_cons_succ])
            refine tk 16 ?_
            (try simp only [Act.put, List.setIfInBounds_toArray, List.set_cons_zero, List.set_cons_succ])
            refine rdy1 17 (fun K hK => ?_)
            refine step_srowst one_tStr S (by rfl) 9 _ _ rfl rfl (z ++ [s[k]]) rfl tsL memA (by simp) HV.out putA ?_; clear S; intro w9 S
            (first | refine hK.out _ _ (S.sub subA) (fun _ => ?_) | (go_wp2_with fail; refine hK.out _ _ (S.sub subA) (fun _ => ?_)))
            clear hK K
            (try simp only [Act.put, List.setIfInBounds_toArray, List.set_cons_zero, List.set_cons_succ])
            refine wpAnyH_done (by kernel_rfl) ?_ _
            refine NoPanic.normal ?_
            go_wp2
            exact ⟨⟨k + 1, g, n, c, F, by omega, by simp, rfl, HN.out, S.sub subA⟩, by simp [intOf]; omega⟩
          refine rdc 9 (fun K hK => ?_) ?_
          · refine rgLast S memA ?_
            (first | refine hK.out _ _ (S.sub subA) (fun _ => ?_) | (go_wp2_with fail; refine hK.out _ _ (S.sub subA) (fun _ => ?_)))
            clear hK K
            (try simp only [Act.put, List.setIfInBounds_toArray, List.set_cons_zero, List.set_cons_succ])
            refine rdys [2, 12] ?_
            refine rdc 2 (fun K hK => ?_) ?_
            · go_simp
              (first | refine hK.out _ _ (S.sub subA) (fun _ => ?_) | (go_wp2_with fail; refine hK.out _ _ (S.sub subA) (fun _ => ?_)))
              clear hK K
              (try simp only [Act.put, List.setIfInBounds_toArray, List.set_cons_zero, List.set_cons_succ])
              refine tk 3 ?_
              (try simp only [Act.put, List.setIfInBounds_toArray, List.set_cons_zero, List.set_cons_succ])
              refine rdy1 12 (fun K hK => ?_)
              go_simp
              (first | refine hK.out _ _ (S.sub subA) (fun _ => ?_) | (go_wp2_with fail; refine hK.out _ _ (S.sub subA) (fun _ => ?_)))
              clear hK K
              (try simp only [Act.put, List.setIfInBounds_toArray, List.set_cons_zero, List.set_cons_succ])
              refine rdy1 13 (fun K hK => ?_)
              refine rgByte (s[k]) S ?_; clear S; intro g9 w9 S
              (first | refine hK.out _ _ (S.sub subA) (fun _ => ?_) | (go_wp2_with fail; refine hK.out _ _ (S.sub subA) (fun _ => ?_)))
              clear hK K
              (try simp only [Act.put, List.setIfInBounds_toArray, List.set_cons_zero, List.set_cons_succ])
              refine rdy1 14 (fun K hK => ?_)
              refine rgConv1 S memA ?_
              (first | refine hK.out _ _ (S.sub subA) (fun _ => ?_) | (go_wp2_with fail; refine hK.out _ _ (S.sub subA) (fun _ => ?_)))
              clear hK K
              (try simp only [Act.put, List.setIfInBounds_toArray, List.set_cons_zero, List.set_cons_succ])
              refine tk 15 ?_ (hy := by exact yAdd L9.out)
              (try simp only [Act.put, List.setIfInBounds_toArray, List.set_cons_zero, List.set_cons_succ])
              refine tk 16 ?_
              (try simp only [Act.put, List.setIfInBounds_toArray, List.set_cons_zero, List.set_cons_succ])
              refine rdy1 17 (fun K hK => ?_)
              refine step_srowst one_tStr S (by rfl) 9 _ _ rfl rfl (z ++ [s[k]]) rfl tsL memA (by simp) HV.out putA ?_; clear S; intro w9 S
              (first | refine hK.out _ _ (S.sub subA) (fun _ => ?_) | (go_wp2_with fail; refine hK.out _ _ (S.sub subA) (fun _ => ?_)))
              clear hK K
              (try simp only [Act.put, List.setIfInBounds_toArray, List.set_cons_zero, List.set_cons_succ])
              refine wpAnyH_done (by kernel_rfl) ?_ _
              refine NoPanic.normal ?_
              go_wp2
              exact ⟨⟨k + 1, g, n, c, F, by omega, by simp, rfl, HN.out, S.sub subA⟩, by simp [intOf]; omega⟩
            refine rdc 12 (fun K hK => ?_) AllReadyH.nil
            go_simp
            (first | refine hK.out _ _ (S.sub subA) (fun _ => ?_) | (go_wp2_with fail; refine hK.out _ _ (S.sub subA) (fun _ => ?_)))
            clear hK K
            (try simp only [Act.put, List.setIfInBounds_toArray, List.set_cons_zero, List.set_cons_succ])
            refine rdys [2, 13] ?_
            refine rdc 2 (fun K hK => ?_) ?_
            · go_simp
              (first | refine hK.out _ _ (S.sub subA) (fun _ => ?_) | (go_wp2_with fail; refine hK.out _ _ (S.sub subA) (fun _ => ?_)))
              clear hK K
              (try simp only [Act.put, List.setIfInBounds_toArray, List.set_cons_zero, List.set_cons_succ])
              refine tk 3 ?_
              (try simp only [Act.put, List.setIfInBounds_toArray, List.set_cons_zero, List.set_cons_succ])
              refine rdy1 13 (fun K hK => ?_)
              refine rgByte (s[k]) S ?_; clear S; intro g9 w9 S
              (first | refine hK.out _ _ (S.sub subA) (fun _ => ?_) | (go_wp2_with fail; refine hK.out _ _ (S.sub subA) (fun _ => ?_)))
              clear hK K
              (try simp only [Act.put, List.setIfInBounds_toArray, List.set_cons_zero, List.set_cons_succ])
              refine rdy1 14 (fun K hK => ?_)
              refine rgConv1 S memA ?_
              (first | refine hK.out _ _ (S.sub subA) (fun _ => ?_) | (go_wp2_with fail; refine hK.out _ _ (S.sub subA) (fun _ => ?_)))
              clear hK K
              (try simp only [Act.put, List.setIfInBounds_toArray, List.set_cons_zero, List.set_cons_succ])
              refine tk 15 ?_ (hy := by exact yAdd L9.out)
              (try simp only [Act.put, List.setIfInBounds_toArray, List.set_cons_zero, List.set_cons_succ])
              refine tk 16 ?_
              (try simp only [Act.put, List.setIfInBounds_toArray, List.set_cons_zero, List.set_cons_succ])
              refine rdy1 17 (fun K hK => ?_)
              refine step_srowst one_tStr S (by rfl) 9 _ _ rfl rfl (z ++ [s[k]]) rfl tsL memA (by simp) HV.out putA ?_; clear S; intro w9 S
              (first | refine hK.out _ _ (S.sub subA) (fun _ => ?_) | (go_wp2_with fail; refine hK.out _ _ (S.sub subA) (fun _ => ?_)))
              clear hK K
              (try simp only [Act.put, List.setIfInBounds_toArray, List.set_cons_zero, List.set_cons_succ])
              refine wpAnyH_done (by kernel_rfl) ?_ _
              refine NoPanic.normal ?_
              go_wp2
              exact ⟨⟨k + 1, g, n, c, F, by omega, by simp, rfl, HN.out, S.sub subA⟩, by simp [intOf]; omega⟩
            refine rdc 13 (fun K hK => ?_) AllReadyH.nil
            refine rgByte (s[k]) S ?_; clear S; intro g9 w9 S
            (first | refine hK.out _ _ (S.sub subA) (fun _ => ?_) | (go_wp2_with fail; refine hK.out _ _ (S.sub subA) (fun _ => ?_)))
            clear hK K
            (try simp only [Act.put, List.setIfInBounds_toArray, List.set_cons_zero, List.set_cons_succ])
            refine rdys [2, 14] ?_
            refine rdc 2 (fun K hK => ?_) ?_
            · go_simp
              (first | refine hK.out _ _ (S.sub subA) (fun _ => ?_) | (go_wp2_with fail; refine hK.out _ _ (S.sub subA) (fun _ => ?_)))
              clear hK K
              (try simp only [Act.put, List.setIfInBounds_toArray, List.set_cons_zero, List.set_cons_succ])
              refine tk 3 ?_
              (try simp only [Act.put, List.setIfInBounds_toArray, List.set_cons_zero, List.set_cons_succ])
              refine rdy1 14 (fun K hK => ?_)
              refine rgConv1 S memA ?_
              (first | refine hK.out _ _ (S.sub subA) (fun _ => ?_) | (go_wp2_with fail; refine hK.out _ _ (S.sub subA) (fun _ => ?_)))
              clear hK K
              (try simp only [Act.put, List.setIfInBounds_toArray, List.set_cons_zero, List.set_cons_succ])
              refine tk 15 ?_ (hy := by exact yAdd L9.out)
              (try simp only [Act.put, List.setIfInBounds_toArray, List.set_cons_zero, List.set_cons_succ])
              refine tk 16 ?_
              (try simp only [Act.put, List.setIfInBounds_toArray, List.set_cons_zero, List.set_cons_succ])
              refine rdy1 17 (fun K hK => ?_)
              refine step_srowst one_tStr S (by rfl) 9 _ _ rfl rfl (z ++ [s[k]]) rfl tsL memA (by simp) HV.out putA ?_; clear S; intro w9 S
              (first | refine hK.out _ _ (S.sub subA) (fun _ => ?_) | (go_wp2_with fail; refine hK.out _ _ (S.sub subA) (fun _ => ?_)))
              clear hK K
              (try simp only [Act.put, List.setIfInBounds_toArray, List.set_cons_zero, List.set_cons_succ])
              refine wpAnyH_done (by kernel_rfl) ?_ _
              refine NoPanic.normal ?_
              go_wp2
              exact ⟨⟨k + 1, g, n, c, F, by omega, by simp, rfl, HN.out, S.sub subA⟩, by simp [intOf]; omega⟩
            refine rdc 14 (fun K hK => ?_) AllReadyH.nil
            refine rgConv1 S memA ?_
            (first | refine hK.out _ _ (S.sub subA) (fun _ => ?_) | (go_wp2_with fail; refine hK.out _ _ (S.sub subA) (fun _ => ?_)))
            clear hK K
            (try simp only [Act.put, List.setIfInBounds_toArray, List.set_cons_zero, List.set_cons_succ])
            refine tk 15 ?_ (hy := by exact yAdd L9.out)
            (try simp only [Act.put, List.setIfInBounds_toArray, List.set_cons_zero, List.set_cons_succ])
            refine rdy1 2 (fun K hK => ?_)
            go_simp
            (first | refine hK.out _ _ (S.sub subA) (fun _ => ?_) | (go_wp2_with fail; refine hK.out _ _ (S.sub subA) (fun _ => ?_)))
            clear hK K
            (try simp only [Act.put, List.setIfInBounds_toArray, List.set_cons_zero, List.set_cons_succ])
            refine tk 3 ?_
            (try simp only [Act.put, List.setIfInBounds_toArray, List.set_cons_zero, List.set_cons_succ])
            refine tk 16 ?_
            (try simp only [Act.put, List.setIfInBounds_toArray, List.set_cons_zero, List.set_cons_succ])
            refine rdy1 17 (fun K hK => ?_)
            refine step_srowst one_tStr S (by rfl) 9 _ _ rfl rfl (z ++ [s[k]]) rfl tsL memA (by simp) HV.out putA ?_; clear S; intro w9 S
            (first | refine hK.out _ _ (S.sub subA) (fun _ => ?_) | (go_wp2_with fail; refine hK.out _ _ (S.sub subA) (fun _ => ?_)))
            clear hK K
            (try simp only [Act.put, List.setIfInBounds_toArray, List.set_cons_zero, List.set_cons_succ])
            refine wpAnyH_done (by kernel_rfl) ?_ _
            refine NoPanic.normal ?_
            go_wp2
            exact ⟨⟨k + 1, g, n, c, F, by omega, by simp, rfl, HN.out, S.sub subA⟩, by simp [intOf]; omega⟩
          refine rdc 12 (fun K hK => ?_) AllReadyH.nil
          go_simp
          (first | refine hK.out _ _ (S.sub subA) (fun _ => ?_) | (go_wp2_with fail; refine hK.out _ _ (S.sub subA) (fun _ => ?_)))
          clear hK K
          (try simp only [Act.put, List.setIfInBounds_toArray, List.set_cons_zero, List.set_cons_succ])
          refine rdys [2, 9, 13] ?_
          refine rdc 2 (fun K hK => ?_) ?_
          · go_simp
            (first | refine hK.out _ _ (S.sub subA) (fun _ => ?_) | (go_wp2_with fail; refine hK.out _ _ (S.sub subA) (fun _ => ?_)))
            clear hK K
            (try simp only [Act.put, List.setIfInBounds_toArray, List.set_cons_zero, List.set_cons_succ])
            refine tk 3 ?_
            (try simp only [Act.put, List.setIfInBounds_toArray, List.set_cons_zero, List.set_cons_succ])
            refine rdys [9, 13] ?_
            refine rdc 9 (fun K hK => ?_) ?_
            · refine rgLast S memA ?_
              (first | refine hK.out _ _ (S.sub subA) (fun _ => ?_) | (go_wp2_with fail; refine hK.out _ _ (S.sub subA) (fun _ => ?_)))
              clear hK K
              (try simp only [Act.put, List.setIfInBounds_toArray, List.set_cons_zero, List.set_cons_succ])
              refine rdy1 13 (fun K hK => ?_)
              refine rgByte (s[k]) S ?_; clear S; intro g9 w9 S
              (first | refine hK.out _ _ (S.sub subA) (fun _ => ?_) | (go_wp2_with fail; refine hK.out _ _ (S.sub subA) (fun _ => ?_)))
              clear hK K
              (try simp only [Act.put, List.setIfInBounds_toArray, List.set_cons_zero, List.set_cons_succ])
              refine rdy1 14 (fun K hK => ?_)
              refine rgConv1 S memA ?_
              (first | refine hK.out _ _ (S.sub subA) (fun _ => ?_) | (go_wp2_with fail; refine hK.out _ _ (S.sub subA) (fun _ => ?_)))
              clear hK K
              (try simp only [Act.put, List.setIfInBounds_toArray, List.set_cons_zero, List.set_cons_succ])
              refine tk 15 ?_ (hy := by exact yAdd L9.out)
              (try simp only [Act.put, List.setIfInBounds_toArray, List.set_cons_zero, List.set_cons_succ])
              refine tk 16 ?_
              (try simp only [Act.put, List.setIfInBounds_toArray, List.set_cons_zero, List.set_cons_succ])
              refine rdy1 17 (fun K hK => ?_)
              refine step_srowst one_tStr S (by rfl) 9 _ _ rfl rfl (z ++ [s[k]]) rfl tsL memA (by simp) HV.out putA ?_; clear S; intro w9 S
              (first | refine hK.out _ _ (S.sub subA) (fun _ => ?_) | (go_wp2_with fail; refine hK.out _ _ (S.sub subA) (fun _ => ?_)))
              clear hK K
              (try simp only [Act.put, List.setIfInBounds_toArray, List.set_cons_zero, List.set_cons_succ])
              refine wpAnyH_done (by kernel_rfl) ?_ _
              refine NoPanic.normal ?_
              go_wp2
              exact ⟨⟨k + 1, g, n, c, F, by omega, by simp, rfl, HN.out, S.sub subA⟩, by simp [intOf]; omega⟩
            refine rdc 13 (fun K hK => ?_) AllReadyH.nil
            refine rgByte (s[k]) S ?_; clear S; intro g9 w9 S
            (first | refine hK.out _ _ (S.sub subA) (fun _ => ?_) | (go_wp2_with fail; refine hK.out _ _ (S.sub subA) (fun _ => ?_)))
            clear hK K
            (try simp only [Act.put, List.setIfInBounds_toArray, List.set_cons_zero, List.set_cons_succ])
            refine rdys [9, 14] ?_
            refine rdc 9 (fun K hK => ?_) ?_
            · refine rgLast S memA ?_
              (first | refine hK.out _ _ (S.sub subA) (fun _ => ?_) | (go_wp2_with fail; refine hK.out _ _ (S.sub subA) (fun _ => ?_)))
              clear hK K
              (try simp only [Act.put, List.setIfInBounds_toArray, List.set_cons_zero, List.set_cons_succ])
              refine rdy1 14 (fun K hK => ?_)
              refine rgConv1 S memA ?_
              (first | refine hK.out _ _ (S.sub subA) (fun _ => ?_) | (go_wp2_with fail; refine hK.out _ _ (S.sub subA) (fun _ => ?_)))
              clear hK K
              (try simp only [Act.put, List.setIfInBounds_toArray, List.set_cons_zero, List.set_cons_succ])
              refine tk 15 ?_ (hy := by exact yAdd L9.out)
              (try simp only [Act.put, List.setIfInBounds_toArray, List.set_cons_zero, List.set_cons_succ])
              refine tk 16 ?_
              (try simp only [Act.put, List.setIfInBounds_toArray, List.set_cons_zero, List.set_cons_succ])
              refine rdy1 17 (fun K hK => ?_)
              refine step_srowst one_tStr S (by rfl) 9 _ _ rfl rfl (z ++ [s[k]]) rfl tsL memA (by simp) HV.out putA ?_; clear S; intro w9 S
              (first | refine hK.out _ _ (S.sub subA) (fun _ => ?_) | (go_wp2_with fail; refine hK.out _ _ (S.sub subA) (fun _ => ?_)))
              clear hK K
              (try simp only [Act.put, List.setIfInBounds_toArray, List.set_cons_zero, List.set_cons_succ])
              refine wpAnyH_done (by kernel_rfl) ?_ _
              refine NoPanic.normal ?_
              go_wp2
              exact ⟨⟨k + 1, g, n, c, F, by omega, by simp, rfl, HN.out, S.sub subA⟩, by simp [intOf]; omega⟩
            refine rdc 14 (fun K hK => ?_) AllReadyH.nil
            refine rgConv1 S memA ?_
            (first | refine hK.out _ _ (S.sub subA) (fun _ => ?_) | (go_wp2_with fail; refine hK.out _ _ (S.sub subA) (fun _ => ?_)))
            clear hK K
            (try simp only [Act.put, List.setIfInBounds_toArray, List.set_cons_zero, List.set_cons_succ])
            refine rdy1 9 (fun K hK => ?_)
            refine rgLast S memA ?_
            (first | refine hK.out _ _ (S.sub subA) (fun _ => ?_) | (go_wp2_with fail; refine hK.out _ _ (S.sub subA) (fun _ => ?_)))
            clear hK K
            (try simp only [Act.put, List.setIfInBounds_toArray, List.set_cons_zero, List.set_cons_succ])
            refine tk 15 ?_ (hy := by exact yAdd L9.out)
            (try simp only [Act.put, List.setIfInBounds_toArray, List.set_cons_zero, List.set_cons_succ])
            refine tk 16 ?_
            (try simp only [Act.put, List.setIfInBounds_toArray, List.set_cons_zero, List.set_cons_succ])
            refine rdy1 17 (fun K hK => ?_)
            refine step_srowst one_tStr S (by rfl) 9 _ _ rfl rfl (z ++ [s[k]]) rfl tsL memA (by simp) HV.out putA ?_; clear S; intro w9 S
            (first | refine hK.out _ _ (S.sub subA) (fun _ => ?_) | (go_wp2_with fail; refine hK.out _ _ (S.sub subA) (fun _ => ?_)))
            clear hK K
            (try simp only [Act.put, List.setIfInBounds_toArray, List.set_cons_zero, List.set_cons_succ])
            refine wpAnyH_done (by kernel_rfl) ?_ _
            refine NoPanic.normal ?_
            go_wp2
            exact ⟨⟨k + 1, g, n, c, F, by omega, by simp, rfl, HN.out, S.sub subA⟩, by simp [intOf]; omega⟩
          refine rdc 9 (fun K hK => ?_) ?_
          · refine rgLast S memA ?_
            (first | refine hK.out _ _ (S.sub subA) (fun _ => ?_) | (go_wp2_with fail; refine hK.out _ _ (S.sub subA) (fun _ => ?_)))
            clear hK K
            (try simp only [Act.put, List.setIfInBounds_toArray, List.set_cons_zero, List.set_cons_succ])
            refine rdys [2, 13] ?_
            refine rdc 2 (fun K hK => ?_) ?_
            · go_simp
              (first | refine hK.out _ _ (S.sub subA) (fun _ => ?_) | (go_wp2_with fail; refine hK.out _ _ (S.sub subA) (fun _ => ?_)))
              clear hK K
              (try simp only [Act.put, List.setIfInBounds_toArray, List.set_cons_zero, List.set_cons_succ])
              refine tk 3 ?_
              (try simp only [Act.put, List.setIfInBounds_toArray, List.set_cons_zero, List.set_cons_succ])
              refine rdy1 13 (fun K hK => ?_)
              refine rgByte (s[k]) S ?_; clear S; intro g9 w9 S
              (first | refine hK.out _ _ (S.sub subA) (fun _ => ?_) | (go_wp2_with fail; refine hK.out _ _ (S.sub subA) (fun _ => ?_)))
              clear hK K
              (try simp only [Act.put, List.setIfInBounds_toArray, List.set_cons_zero, List.set_cons_succ])
              refine rdy1 14 (fun K hK => ?_)
              refine rgConv1 S memA ?_
              (first | refine hK.out _ _ (S.sub subA) (fun _ => ?_) | (go_wp2_with fail; refine hK.out _ _ (S.sub subA) (fun _ => ?_)))
              clear hK K
              (try simp only [Act.put, List.setIfInBounds_toArray, List.set_cons_zero, List.set_cons_succ])
              refine tk 15 ?_ (hy := by exact yAdd L9.out)
              (try simp only [Act.put, List.setIfInBounds_toArray, List.set_cons_zero, List.set_cons_succ])
              refine tk 16 ?_
              (try simp only [Act.put, List.setIfInBounds_toArray, List.set_cons_zero, List.set_cons_succ])
              refine rdy1 17 (fun K hK => ?_)
              refine step_srowst one_tStr S (by rfl) 9 _ _ rfl rfl (z ++ [s[k]]) rfl tsL memA (by simp) HV.out putA ?_; clear S; intro w9 S
              (first | refine hK.out _ _ (S.sub subA) (fun _ => ?_) | (go_wp2_with fail; refine hK.out _ _ (S.sub subA) (fun _ => ?_)))
              clear hK K
              (try simp only [Act.put, List.setIfInBounds_toArray, List.set_cons_zero, List.set_cons_succ])
              refine wpAnyH_done (by kernel_rfl) ?_ _
              refine NoPanic.normal ?_
              go_wp2
              exact ⟨⟨k + 1, g, n, c, F, by omega, by simp, rfl, HN.out, S.sub subA⟩, by simp [intOf]; omega⟩
            refine rdc 13 (fun K hK => ?_) AllReadyH.nil
            refine rgByte (s[k]) S ?_; clear S; intro g9 w9 S
            (first | refine hK.out _ _ (S.sub subA) (fun _ => ?_) | (go_wp2_with fail; refine hK.out _ _ (S.sub subA) (fun _ => ?_)))
            clear hK K
            (try simp only [Act.put, List.setIfInBounds_toArray, List.set_cons_zero, List.set_cons_succ])
            refine rdys [2, 14] ?_
            refine rdc 2 (fun K hK => ?_) ?_
            · go_simp
              (first | refine hK.out _ _ (S.sub subA) (fun _ => ?_) | (go_wp2_with fail; refine hK.out _ _ (S.sub subA) (fun _ => ?_)))
              clear hK K
              (try simp only [Act.put, List.setIfInBounds_toArray, List.set_cons_zero, List.set_cons_succ])
              refine tk 3 ?_
              (try simp only [Act.put, List.setIfInBounds_toArray, List.set_cons_zero, List.set_cons_succ])
              refine rdy1 14 (fun K hK => ?_)
              refine rgConv1 S memA ?_
              (first | refine hK.out _ _ (S.sub subA) (fun _ => ?_) | (go_wp2_with fail; refine hK.out _ _ (S.sub subA) (fun _ => ?_)))
              clear hK K
              (try simp only [Act.put, List.setIfInBounds_toArray, List.set_cons_zero, List.set_cons_succ])
              refine tk 15 ?_ (hy := by exact yAdd L9.out)
              (try simp only [Act.put, List.setIfInBounds_toArray, List.set_cons_zero, List.set_cons_succ])
              refine tk 16 ?_
              (try simp only [Act.put, List.setIfInBounds_toArray, List.set_cons_zero, List.set_cons_succ])
              refine rdy1 17 (fun K hK => ?_)
              refine step_srowst one_tStr S (by rfl) 9 _ _ rfl rfl (z ++ [s[k]]) rfl tsL memA (by simp) HV.out putA ?_; clear S; intro w9 S
              (first | refine hK.out _ _ (S.sub subA) (fun _ => ?_) | (go_wp2_with fail; refine hK.out _ _ (S.sub subA) (fun _ => ?_)))
              clear hK K
              (try simp only [Act.put, List.setIfInBounds_toArray, List.set_cons_zero, List.set_cons_succ])
              refine wpAnyH_done (by kernel_rfl) ?_ _
              refine NoPanic.normal ?_
              go_wp2
              exact ⟨⟨k + 1, g, n, c, F, by omega, by simp, rfl, HN.out, S.sub subA⟩, by simp [intOf]; omega⟩
            refine rdc 14 (fun K hK => ?_) AllReadyH.nil
            refine rgConv1 S memA ?_
            (first | refine hK.out _ _ (S.sub subA) (fun _ => ?_) | (go_wp2_with fail; refine hK.out _ _ (S.sub subA) (fun _ => ?_)))
            clear hK K
            (try simp only [Act.put, List.setIfInBounds_toArray, List.set_cons_zero, List.set_cons_succ])
            refine tk 15 ?_ (hy := by exact yAdd L9.out)
            (try simp only [Act.put, List.setIfInBounds_toArray, List.set_cons_zero, List.set_cons_succ])
            refine rdy1 2 (fun K hK => ?_)
            go_simp
            (first | refine hK.out _ _ (S.sub subA) (fun _ => ?_) | (go_wp2_with fail; refine hK.out _ _ (S.sub subA) (fun _ => ?_)))
            clear hK K
            (try simp only [Act.put, List.setIfInBounds_toArray, List.set_cons_zero, List.set_cons_succ])
            refine tk 3 ?_
            (try simp only [Act.put, List.setIfInBounds_toArray, List.set_cons_zero, List.set_cons_succ])
            refine tk 16 ?_
            (try simp only [Act.put, List.setIfInBounds_toArray, List.set_cons_zero, List.set_cons_succ])
            refine rdy1 17 (fun K hK => ?_)
            refine step_srowst one_tStr S (by rfl) 9 _ _ rfl rfl (z ++ [s[k]]) rfl tsL memA (by simp) HV.out putA ?_; clear S; intro w9 S
            (first | refine hK.out _ _ (S.sub subA) (fun _ => ?_) | (go_wp2_with fail; refine hK.out _ _ (S.sub subA) (fun _ => ?_)))
            clear hK K
            (try simp only [Act.put, List.setIfInBounds_toArray, List.set_cons_zero, List.set_cons_succ])
            refine wpAnyH_done (by kernel_rfl) ?_ _
            refine NoPanic.normal ?_
            go_wp2
            exact ⟨⟨k + 1, g, n, c, F, by omega, by simp, rfl, HN.out, S.sub subA⟩, by simp [intOf]; omega⟩
          refine rdc 13 (fun K hK => ?_) AllReadyH.nil
          refine rgByte (s[k]) S ?_; clear S; intro g9 w9 S
          (first | refine hK.out _ _ (S.sub subA) (fun _ => ?_) | (go_wp2_with fail; refine hK.out _ _ (S.sub subA) (fun _ => ?_)))
          clear hK K
          (try simp only [Act.put, List.setIfInBounds_toArray, List.set_cons_zero, List.set_cons_succ])
          refine rdys [2, 9, 14] ?_
          refine rdc 2 (fun K hK => ?_) ?_
          · go_simp
            (first | refine hK.out _ _ (S.sub subA) (fun _ => ?_) | (go_wp2_with fail; refine hK.out _ _ (S.sub subA) (fun _ => ?_)))
            clear hK K
            (try simp only [Act.put, List.setIfInBounds_toArray, List.set_cons_zero, List.set_cons_succ])
            refine tk 3 ?_
            (try simp only [Act.put, List.setIfInBounds_toArray, List.set_cons_zero, List.set_cons_succ])
            refine rdys [9, 14] ?_
            refine rdc 9 (fun K hK => ?_) ?_
            · refine rgLast S memA ?_
              (first | refine hK.out _ _ (S.sub subA) (fun _ => ?_) | (go_wp2_with fail; refine hK.out _ _ (S.sub subA) (fun _ => ?_)))
              clear hK K
              (try simp only [Act.put, List.setIfInBounds_toArray, List.set_cons_zero, List.set_cons_succ])
              refine rdy1 14 (fun K hK => ?_)
              refine rgConv1 S memA ?_
              (first | refine hK.out _ _ (S.sub subA) (fun _ => ?_) | (go_wp2_with fail; refine hK.out _ _ (S.sub subA) (fun _ => ?_)))
              clear hK K
              (try simp only [Act.put, List.setIfInBounds_toArray, List.set_cons_zero, List.set_cons_succ])
              refine tk 15 ?_ (hy := by exact yAdd L9.out)
              (try simp only [Act.put, List.setIfInBounds_toArray, List.set_cons_zero, List.set_cons_succ])
              refine tk 16 ?_
              (try simp only [Act.put, List.setIfInBounds_toArray, List.set_cons_zero, List.set_cons_succ])
              refine rdy1 17 (fun K hK => ?_)
              refine step_srowst one_tStr S (by rfl) 9 _ _ rfl rfl (z ++ [s[k]]) rfl tsL memA (by simp) HV.out putA ?_; clear S; intro w9 S
              (first | refine hK.out _ _ (S.sub subA) (fun _ => ?_) | (go_wp2_with fail; refine hK.out _ _ (S.sub subA) (fun _ => ?_)))
              clear hK K
              (try simp only [Act.put, List.setIfInBounds_toArray, List.set_cons_zero, List.set_cons_succ])
              refine wpAnyH_done (by kernel_rfl) ?_ _
              refine NoPanic.normal ?_
              go_wp2
              exact ⟨⟨k + 1, g, n, c, F, by omega, by simp, rfl, HN.out, S.sub subA⟩, by simp [intOf]; omega⟩
            refine rdc 14 (fun K hK => ?_) AllReadyH.nil
            refine rgConv1 S memA ?_
            (first | refine hK.out _ _ (S.sub subA) (fun _ => ?_) | (go_wp2_with fail; refine hK.out _ _ (S.sub subA) (fun _ => ?_)))
            clear hK K
            (try simp only [Act.put, List.setIfInBounds_toArray, List.set_cons_zero, List.set_cons_succ])
            refine rdy1 9 (fun K hK => ?_)
            refine rgLast S memA ?_
            (first | refine hK.out _ _ (S.sub subA) (fun _ => ?_) | (go_wp2_with fail; refine hK.out _ _ (S.sub subA) (fun _ => ?_)))
            clear hK K
            (try simp only [Act.put, List.setIfInBounds_toArray, List.set_cons_zero, List.set_cons_succ])
            refine tk 15 ?_ (hy := by exact yAdd L9.out)
            (try simp only [Act.put, List.setIfInBounds_toArray, List.set_cons_zero, List.set_cons_succ])
            refine tk 16 ?_
            (try simp only [Act.put, List.setIfInBounds_toArray, List.set_cons_zero, List.set_cons_succ])
            refine rdy1 17 (fun K hK => ?_)
            refine step_srowst one_tStr S (by rfl) 9 _ _ rfl rfl (z ++ [s[k]]) rfl tsL memA (by simp) HV.out putA ?_; clear S; intro w9 S
            (first | refine hK.out _ _ (S.sub subA) (fun _ => ?_) | (go_wp2_with fail; refine hK.out _ _ (S.sub subA) (fun _ => ?_)))
            clear hK K
            (try simp only [Act.put, List.setIfInBounds_toArray, List.set_cons_zero, List.set_cons_succ])
            refine wpAnyH_done (by kernel_rfl) ?_ _
            refine NoPanic.normal ?_
            go_wp2
            exact ⟨⟨k + 1, g, n, c, F, by omega, by simp, rfl, HN.out, S.sub subA⟩, by simp [intOf]; omega⟩
          refine rdc 9 (fun K hK => ?_) ?_
          · refine rgLast S memA ?_
            (first | refine hK.out _ _ (S.sub subA) (fun _ => ?_) | (go_wp2_with fail; refine hK.out _ _ (S.sub subA) (fun _ => ?_)))
            clear hK K
            (try simp only [Act.put, List.setIfInBounds_toArray, List.set_cons_zero, List.set_cons_succ])
            refine rdys [2, 14] ?_
            refine rdc 2 (fun K hK => ?_) ?_
            · go_simp
              (first | refine hK.out _ _ (S.sub subA) (fun _ => ?_) | (go_wp2_with fail; refine hK.out _ _ (S.sub subA) (fun _ => ?_)))
              clear hK K
              (try simp only [Act.put, List.setIfInBounds_toArray, List.set_cons_zero, List.set_cons_succ])
              refine tk 3 ?_
              (try simp only [Act.put, List.setIfInBounds_toArray, List.set_cons_zero, List.set_cons_succ])
              refine rdy1 14 (fun K hK => ?_)
              refine rgConv1 S memA ?_
              (first | refine hK.out _ _ (S.sub subA) (fun _ => ?_) | (go_wp2_with fail; refine hK.out _ _ (S.sub subA) (fun _ => ?_)))
              clear hK K
              (try simp only [Act.put, List.setIfInBounds_toArray, List.set_cons_zero, List.set_cons_succ])
              refine tk 15 ?_ (hy := by exact yAdd L9.out)
              (try simp only [Act.put, List.setIfInBounds_toArray, List.set_cons_zero, List.set_cons_succ])
              refine tk 16 ?_
              (try simp only [Act.put, List.setIfInBounds_toArray, List.set_cons_zero, List.set_cons_succ])
              refine rdy1 17 (fun K hK => ?_)
              refine step_srowst one_tStr S (by rfl) 9 _ _ rfl rfl (z ++ [s[k]]) rfl tsL memA (by simp) HV.out putA ?_; clear S; intro w9 S
              (first | refine hK.out _ _ (S.sub subA) (fun _ => ?_) | (go_wp2_with fail; refine hK.out _ _ (S.sub subA) (fun _ => ?_)))
              clear hK K
              (try simp only [Act.put, List.setIfInBounds_toArray, List.set_cons_zero, List.set_cons_succ])
              refine wpAnyH_done (by kernel_rfl) ?_ _
              refine NoPanic.normal ?_
              go_wp2
              exact ⟨⟨k + 1, g, n, c, F, by omega, by simp, rfl, HN.out, S.sub subA⟩, by simp [intOf]; omega⟩
            refine rdc 14 (fun K hK => ?_) AllReadyH.nil
            refine rgConv1 S memA ?_
            (first | refine hK.out _ _ (S.sub subA) (fun _ => ?_) | (go_wp2_with fail; refine hK.out _ _ (S.sub subA) (fun _ => ?_)))
            clear hK K
            (try simp only [Act.put, List.setIfInBounds_toArray, List.set_cons_zero, List.set_cons_succ])
            refine tk 15 ?_ (hy := by exact yAdd L9.out)
            (try simp only [Act.put, List.setIfInBounds_toArray, List.set_cons_zero, List.set_cons_succ])
            refine rdy1 2 (fun K hK => ?_)
            go_simp
            (first | refine hK.out _ _ (S.sub subA) (fun _ => ?_) | (go_wp2_with fail; refine hK.out _ _ (S.sub subA) (fun _ => ?_)))
            clear hK K
            (try simp only [Act.put, List.setIfInBounds_toArray, List.set_cons_zero, List.set_cons_succ])
            refine tk 3 ?_
            (try simp only [Act.put, List.setIfInBounds_toArray, List.set_cons_zero, List.set_cons_succ])
            refine tk 16 ?_
            (try simp only [Act.put, List.setIfInBounds_toArray, List.set_cons_zero, List.set_cons_succ])
            refine rdy1 17 (fun K hK => ?_)
            refine step_srowst one_tStr S (by rfl) 9 _ _ rfl rfl (z ++ [s[k]]) rfl tsL memA (by simp) HV.out putA ?_; clear S; intro w9 S
            (first | refine hK.out _ _ (S.sub subA) (fun _ => ?_) | (go_wp2_with fail; refine hK.out _ _ (S.sub subA) (fun _ => ?_)))
            clear hK K
            (try simp only [Act.put, List.setIfInBounds_toArray, List.set_cons_zero, List.set_cons_succ])
            refine wpAnyH_done (by kernel_rfl) ?_ _
            refine NoPanic.normal ?_
            go_wp2
            exact ⟨⟨k + 1, g, n, c, F, by omega, by simp, rfl, HN.out, S.sub subA⟩, by simp [intOf]; omega⟩
          refine rdc 14 (fun K hK => ?_) AllReadyH.nil
          refine rgConv1 S memA ?_
          (first | refine hK.out _ _ (S.sub subA) (fun _ => ?_) | (go_wp2_with fail; refine hK.out _ _ (S.sub subA) (fun _ => ?_)))
          clear hK K
          (try simp only [Act.put, List.setIfInBounds_toArray, List.set_cons_zero, List.set_cons_succ])
          refine rdys [2, 9] ?_
          refine rdc 2 (fun K hK => ?_) ?_
          · go_simp
            (first | refine hK.out _ _ (S.sub subA) (fun _ => ?_) | (go_wp2_with fail; refine hK.out _ _ (S.sub subA) (fun _ => ?_)))
            clear hK K
            (try simp only [Act.put, List.setIfInBounds_toArray, List.set_cons_zero, List.set_cons_succ])
            refine tk 3 ?_
            (try simp only [Act.put, List.setIfInBounds_toArray, List.set_cons_zero, List.set_cons_succ])
            refine rdy1 9 (fun K hK => ?_)
            refine rgLast S memA ?_
            (first | refine hK.out _ _ (S.sub subA) (fun _ => ?_) | (go_wp2_with fail; refine hK.out _ _ (S.sub subA) (fun _ => ?_)))
            clear hK K
            (try simp only [Act.put, List.setIfInBounds_toArray, List.set_cons_zero, List.set_cons_succ])
            refine tk 15 ?_ (hy := by exact yAdd L9.out)
            (try simp only [Act.put, List.setIfInBounds_toArray, List.set_cons_zero, List.set_cons_succ])
            refine tk 16 ?_
            (try simp only [Act.put, List.setIfInBounds_toArray, List.set_cons_zero, List.set_cons_succ])
            refine rdy1 17 (fun K hK => ?_)
            refine step_srowst one_tStr S (by rfl) 9 _ _ rfl rfl (z ++ [s[k]]) rfl tsL memA (by simp) HV.out putA ?_; clear S; intro w9 S
            (first | refine hK.out _ _ (S.sub subA) (fun _ => ?_) | (go_wp2_with fail; refine hK.out _ _ (S.sub subA) (fun _ => ?_)))
            clear hK K
            (try simp only [Act.put, List.setIfInBounds_toArray, List.set_cons_zero, List.set_cons_succ])
            refine wpAnyH_done (by kernel_rfl) ?_ _
            refine NoPanic.normal ?_
            go_wp2
            exact ⟨⟨k + 1, g, n, c, F, by omega, by simp, rfl, HN.out, S.sub subA⟩, by simp [intOf]; omega⟩
          refine rdc 9 (fun K hK => ?_) AllReadyH.nil
          refine rgLast S memA ?_
          (first | refine hK.out _ _ (S.sub subA) (fun _ => ?_) | (go_wp2_with fail; refine hK.out _ _ (S.sub subA) (fun _ => ?_)))
          clear hK K
          (try simp only [Act.put, List.setIfInBounds_toArray, List.set_cons_zero, List.set_cons_succ])
          refine tk 15 ?_ (hy := by exact yAdd L9.out)
          (try simp only [Act.put, List.setIfInBounds_toArray, List.set_cons_zero, List.set_cons_succ])
          refine rdy1 2 (fun K hK => ?_)
          go_simp
          (first | refine hK.out _ _ (S.sub subA) (fun _ => ?_) | (go_wp2_with fail; refine hK.out _ _ (S.sub subA) (fun _ => ?_)))
          clear hK K
          (try simp only [Act.put, List.setIfInBounds_toArray, List.set_cons_zero, List.set_cons_succ])
          refine tk 3 ?_
          (try simp only [Act.put, List.setIfInBounds_toArray, List.set_cons_zero, List.set_cons_succ])
          refine tk 16 ?_
          (try simp only [Act.put, List.setIfInBounds_toArray, List.set_cons_zero, List.set_cons_succ])
          refine rdy1 17 (fun K hK => ?_)
          refine step_srowst one_tStr S (by rfl) 9 _ _ rfl rfl (z ++ [s[k]]) rfl tsL memA (by simp) HV.out putA ?_; clear S; intro w9 S
          (first | refine hK.out _ _ (S.sub subA) (fun _ => ?_) | (go_wp2_with fail; refine hK.out _ _ (S.sub subA) (fun _ => ?_)))
          clear hK K
          (try simp only [Act.put, List.setIfInBounds_toArray, List.set_cons_zero, List.set_cons_succ])
          refine wpAnyH_done (by kernel_rfl) ?_ _
          refine NoPanic.normal ?_
          go_wp2
          exact ⟨⟨k + 1, g, n, c, F, by omega, by simp, rfl, HN.out, S.sub subA⟩, by simp [intOf]; omega⟩
        refine rdc 12 (fun K hK => ?_) AllReadyH.nil
        go_simp
        (first | refine hK.out _ _ (S.sub subA) (fun _ => ?_) | (go_wp2_with fail; refine hK.out _ _ (S.sub subA) (fun _ => ?_)))
        clear hK K
        (try simp only [Act.put, List.setIfInBounds_toArray, List.set_cons_zero, List.set_cons_succ])
        refine rdys [2, 6, 13] ?_
        refine rdc 2 (fun K hK => ?_) ?_
        · go_simp
          (first | refine hK.out _ _ (S.sub subA) (fun _ => ?_) | (go_wp2_with fail; refine hK.out _ _ (S.sub subA) (fun _ => ?_)))
          clear hK K
          (try simp only [Act.put, List.setIfInBounds_toArray, List.set_cons_zero, List.set_cons_succ])
          refine tk 3 ?_
          (try simp only [Act.put, List.setIfInBounds_toArray, List.set_cons_zero, List.set_cons_succ])
          refine rdys [6, 13] ?_
          refine rdc 6 (fun K hK => ?_) ?_
          · go_simp
            (first | refine hK.out _ _ (S.sub subA) (fun _ => ?_) | (go_wp2_with fail; refine hK.out _ _ (S.sub subA) (fun _ => ?_)))
            clear hK K
            (try simp only [Act.put, List.setIfInBounds_toArray, List.set_cons_zero, List.set_cons_succ])
            refine tk 7 ?_
            (try simp only [Act.put, List.setIfInBounds_toArray, List.set_cons_zero, List.set_cons_succ])
            refine tk 8 ?_
            (try simp only [Act.put, List.setIfInBounds_toArray, List.set_cons_zero, List.set_cons_succ])
            refine rdys [9, 13] ?_
            refine rdc 9 (fun K hK => ?_) ?_
            · refine rgLast S memA ?_
              (first | refine hK.out _ _ (S.sub subA) (fun _ => ?_) | (go_wp2_with fail; refine hK.out _ _ (S.sub subA) (fun _ => ?_)))
              clear hK K
              (try simp only [Act.put, List.setIfInBounds_toArray, List.set_cons_zero, List.set_cons_succ])
              refine rdy1 13 (fun K hK => ?_)
              refine rgByte (s[k]) S ?_; clear S; intro g9 w9 S
              (first | refine hK.out _ _ (S.sub subA) (fun _ => ?_) | (go_wp2_with fail; refine hK.out _ _ (S.sub subA) (fun _ => ?_)))
              clear hK K
              (try simp only [Act.put, List.setIfInBounds_toArray, List.set_cons_zero, List.set_cons_succ])
              refine rdy1 14 (fun K hK => ?_)
              refine rgConv1 S memA ?_
              (first | refine hK.out _ _ (S.sub subA) (fun _ => ?_) | (go_wp2_with fail; refine hK.out _ _ (S.sub subA) (fun _ => ?_)))
              clear hK K
              (try simp only [Act.put, List.setIfInBounds_toArray, List.set_cons_zero, List.set_cons_succ])
              refine tk 15 ?_ (hy := by exact yAdd L9.out)
              (try simp only [Act.put, List.setIfInBounds_toArray, List.set_cons_zero, List.set_cons_succ])
              refine tk 16 ?_
              (try simp only [Act.put, List.setIfInBounds_toArray, List.set_cons_zero, List.set_cons_succ])
              refine rdy1 17 (fun K hK => ?_)
              refine step_srowst one_tStr S (by rfl) 9 _ _ rfl rfl (z ++ [s[k]]) rfl tsL memA (by simp) HV.out putA ?_; clear S; intro w9 S
              (first | refine hK.out _ _ (S.sub subA) (fun _ => ?_) | (go_wp2_with fail; refine hK.out _ _ (S.sub subA) (fun _ => ?_)))
              clear hK K
              (try simp only [Act.put, List.setIfInBounds_toArray, List.set_cons_zero, List.set_cons_succ])
              refine wpAnyH_done (by kernel_rfl) ?_ _
              refine NoPanic.normal ?_
              go_wp2
              exact ⟨⟨k + 1, g, n, c, F, by omega, by simp, rfl, HN.out, S.sub subA⟩, by simp [intOf]; omega⟩
            refine rdc 13 (fun K hK => ?_) AllReadyH.nil
            refine rgByte (s[k]) S ?_; clear S; intro g9 w9 S
            (first | refine hK.out _ _ (S.sub subA) (fun _ => ?_) | (go_wp2_with fail; refine hK.out _ _ (S.sub subA) (fun _ => ?_)))
            clear hK K
            (try simp only [Act.put, List.setIfInBounds_toArray, List.set_cons_zero, List.set_cons_succ])
            refine rdys [9, 14] ?_
            refine rdc 9 (fun K hK => ?_) ?_
            · refine rgLast S memA ?_
              (first | refine hK.out _ _ (S.sub subA) (fun _ => ?_) | (go_wp2_with fail; refine hK.out _ _ (S.sub subA) (fun _ => ?_)))
              clear hK K
              (try simp only [Act.put, List.setIfInBounds_toArray, List.set_cons_zero, List.set_cons_succ])
              refine rdy1 14 (fun K hK => ?_)
              refine rgConv1 S memA ?_
              (first | refine hK.out _ _ (S.sub subA) (fun _ => ?_) | (go_wp2_with fail; refine hK.out _ _ (S.sub subA) (fun _ => ?_)))
              clear hK K
              (try simp only [Act.put, List.setIfInBounds_toArray, List.set_cons_zero, List.set_cons_succ])
              refine tk 15 ?_ (hy := by exact yAdd L9.out)
              (try simp only [Act.put, List.setIfInBounds_toArray, List.set_cons_zero, List.set_cons_succ])
              refine tk 16 ?_
              (try simp only [Act.put, List.setIfInBounds_toArray, List.set_cons_zero, List.set_cons_succ])
              refine rdy1 17 (fun K hK => ?_)
              refine step_srowst one_tStr S (by rfl) 9 _ _ rfl rfl (z ++ [s[k]]) rfl tsL memA (by simp) HV.out putA ?_; clear S; intro w9 S
              (first | refine hK.out _ _ (S.sub subA) (fun _ => ?_) | (go_wp2_with fail; refine hK.out _ _ (S.sub subA) (fun _ => ?_)))
              clear hK K
              (try simp only [Act.put, List.setIfInBounds_toArray, List.set_cons_zero, List.set_cons_succ])
              refine wpAnyH_done (by kernel_rfl) ?_ _
              refine NoPanic.normal ?_
              go_wp2
              exact ⟨⟨k + 1, g, n, c, F, by omega, by simp, rfl, HN.out, S.sub subA⟩, by simp [intOf]; omega⟩
            refine rdc 14 (fun K hK => ?_) AllReadyH.nil
            refine rgConv1 S memA ?_
            (first | refine hK.out _ _ (S.sub subA) (fun _ => ?_) | (go_wp2_with fail; refine hK.out _ _ (S.sub subA) (fun _ => ?_)))
            clear hK K
            (try simp only [Act.put, List.setIfInBounds_toArray, List.set_cons_zero, List.set_cons_succ])
            refine rdy1 9 (fun K hK => ?_)
            refine rgLast S memA ?_
            (first | refine hK.out _ _ (S.sub subA) (fun _ => ?_) | (go_wp2_with fail; refine hK.out _ _ (S.sub subA) (fun _ => ?_)))
            clear hK K
            (try simp only [Act.put, List.setIfInBounds_toArray, List.set_cons_zero, List.set_cons_succ])
            refine tk 15 ?_ (hy := by exact yAdd L9.out)
            (try simp only [Act.put, List.setIfInBounds_toArray, List.set_cons_zero, List.set_cons_succ])
            refine tk 16 ?_
            (try simp only [Act.put, List.setIfInBounds_toArray, List.set_cons_zero, List.set_cons_succ])
            refine rdy1 17 (fun K hK => ?_)
            refine step_srowst one_tStr S (by rfl) 9 _ _ rfl rfl (z ++ [s[k]]) rfl tsL memA (by simp) HV.out putA ?_; clear S; intro w9 S
            (first | refine hK.out _ _ (S.sub subA) (fun _ => ?_) | (go_wp2_with fail; refine hK.out _ _ (S.sub subA) (fun _ => ?_)))
            clear hK K
            (try simp only [Act.put, List.setIfInBounds_toArray, List.set_cons_zero, List.set_cons_succ])
            refine wpAnyH_done (by kernel_rfl) ?_ _
            refine NoPanic.normal ?_
            go_wp2
            exact ⟨⟨k + 1, g, n, c, F, by omega, by simp, rfl, HN.out, S.sub subA⟩, by simp [intOf]; omega⟩
          refine rdc 13 (fun K hK => ?_) AllReadyH.nil
          refine rgByte (s[k]) S ?_; clear S; intro g9 w9 S
          (first | refine hK.out _ _ (S.sub subA) (fun _ => ?_) | (go_wp2_with fail; refine hK.out _ _ (S.sub subA) (fun _ => ?_)))
          clear hK K
          (try simp only [Act.put, List.setIfInBounds_toArray, List.set_cons_zero, List.set_cons_succ])
          refine rdys [6, 14] ?_
          refine rdc 6 (fun K hK => ?_) ?_
          · go_simp
            (first | refine hK.out _ _ (S.sub subA) (fun _ => ?_) | (go_wp2_with fail; refine hK.out _ _ (S.sub subA) (fun _ => ?_)))
            clear hK K
            (try simp only [Act.put, List.setIfInBounds_toArray, List.set_cons_zero, List.set_cons_succ])
            refine tk 7 ?_
            (try simp only [Act.put, List.setIfInBounds_toArray, List.set_cons_zero, List.set_cons_succ])
            refine tk 8 ?_
            (try simp only [Act.put, List.setIfInBounds_toArray, List.set_cons_zero, List.set_cons_succ])
            refine rdys [9, 14] ?_
            refine rdc 9 (fun K hK => ?_) ?_
            · refine rgLast S memA ?_
              (first | refine hK.out _ _ (S.sub subA) (fun _ => ?_) | (go_wp2_with fail; refine hK.out _ _ (S.sub subA) (fun _ => ?_)))
              clear hK K
              (try simp only [Act.put, List.setIfInBounds_toArray, List.set_cons_zero, List.set_cons_succ])
              refine rdy1 14 (fun K hK => ?_)
              refine rgConv1 S memA ?_
              (first | refine hK.out _ _ (S.sub subA) (fun _ => ?_) | (go_wp2_with fail; refine hK.out _ _ (S.sub subA) (fun _ => ?_)))
              clear hK K
              (try simp only [Act.put, List.setIfInBounds_toArray, List.set_cons_zero, List.set_cons_succ])
              refine tk 15 ?_ (hy := by exact yAdd L9.out)
              (try simp only [Act.put, List.setIfInBounds_toArray, List.set_cons_zero, List.set_cons_succ])
              refine tk 16 ?_
              (try simp only [Act.put, List.setIfInBounds_toArray, List.set_cons_zero, List.set_cons_succ])
              refine rdy1 17 (fun K hK => ?_)
              refine step_srowst one_tStr S (by rfl) 9 _ _ rfl rfl (z ++ [s[k]]) rfl tsL memA (by simp) HV.out putA ?_; clear S; intro w9 S
              (first | refine hK.out _ _ (S.sub subA) (fun _ => ?_) | (go_wp2_with fail; refine hK.out _ _ (S.sub subA) (fun _ => ?_)))
              clear hK K
              (try simp only [Act.put, List.setIfInBounds_toArray, List.set_cons_zero, List.set_cons_succ])
              refine wpAnyH_done (by kernel_rfl) ?_ _
              refine NoPanic.normal ?_
              go_wp2
              exact ⟨⟨k + 1, g, n, c, F, by omega, by simp, rfl, HN.out, S.sub subA⟩, by simp [intOf]; omega⟩
            refine rdc 14 (fun K hK => ?_) AllReadyH.nil
            refine rgConv1 S memA ?_
            (first | refine hK.out _ _ (S.sub subA) (fun _ => ?_) | (go_wp2_with fail; refine hK.out _ _ (S.sub subA) (fun _ => ?_)))
            clear hK K
            (try simp only [Act.put, List.setIfInBounds_toArray, List.set_cons_zero, List.set_cons_succ])
            refine rdy1 9 (fun K hK => ?_)
            refine rgLast S memA ?_
            (first | refine hK.out _ _ (S.sub subA) (fun _ => ?_) | (go_wp2_with fail; refine hK.out _ _ (S.sub subA) (fun _ => ?_)))
            clear hK K
            (try simp only [Act.put, List.setIfInBounds_toArray, List.set_cons_zero, List.set_cons_succ])
            refine tk 15 ?_ (hy := by exact yAdd L9.out)
            (try simp only [Act.put, List.setIfInBounds_toArray, List.set_cons_zero, List.set_cons_succ])
            refine tk 16 ?_
            (try simp only [Act.put, List.setIfInBounds_toArray, List.set_cons_zero, List.set_cons_succ])
            refine rdy1 17 (fun K hK => ?_)
            refine step_srowst one_tStr S (by rfl) 9 _ _ rfl rfl (z ++ [s[k]]) rfl tsL memA (by simp) HV.out putA ?_; clear S; intro w9 S
            (first | refine hK.out _ _ (S.sub subA) (fun _ => ?_) | (go_wp2_with fail; refine hK.out _ _ (S.sub subA) (fun _ => ?_)))
            clear hK K
            (try simp only [Act.put, List.setIfInBounds_toArray, List.set_cons_zero, List.set_cons_succ])
            refine wpAnyH_done (by kernel_rfl) ?_ _
            refine NoPanic.normal ?_
            go_wp2
            exact ⟨⟨k + 1, g, n, c, F, by omega, by simp, rfl, HN.out, S.sub subA⟩, by simp [intOf]; omega⟩
          refine rdc 14 (fun K hK => ?_) AllReadyH.nil
          refine rgConv1 S memA ?_
          (first | refine hK.out _ _ (S.sub subA) (fun _ => ?_) | (go_wp2_with fail; refine hK.out _ _ (S.sub subA) (fun _ => ?_)))
          clear hK K
          (try simp only [Act.put, List.setIfInBounds_toArray, List.set_cons_zero, List.set_cons_succ])
          refine rdy1 6 (fun K hK => ?_)
          go_simp
          (first | refine hK.out _ _ (S.sub subA) (fun _ => ?_) | (go_wp2_with fail; refine hK.out _ _ (S.sub subA) (fun _ => ?_)))
          clear hK K
          (try simp only [Act.put, List.setIfInBounds_toArray, List.set_cons_zero, List.set_cons_succ])
          refine tk 7 ?_
          (try simp only [Act.put, List.setIfInBounds_toArray, List.set_cons_zero, List.set_cons_succ])
          refine tk 8 ?_
          (try simp only [Act.put, List.setIfInBounds_toArray, List.set_cons_zero, List.set_cons_succ])
          refine rdy1 9 (fun K hK => ?_)
          refine rgLast S memA ?_
          (first | refine hK.out _ _ (S.sub subA) (fun _ => ?_) | (go_wp2_with fail; refine hK.out _ _ (S.sub subA) (fun _ => ?_)))
          clear hK K
          (try simp only [Act.put, List.setIfInBounds_toArray, List.set_cons_zero, List.set_cons_succ])
          refine tk 15 ?_ (hy := by exact yAdd L9.out)
          (try simp only [Act.put, List.setIfInBounds_toArray, List.set_cons_zero, List.set_cons_succ])
          refine tk 16 ?_
          (try simp only [Act.put, List.setIfInBounds_toArray, List.set_cons_zero, List.set_cons_succ])
          refine rdy1 17 (fun K hK => ?_)
          refine step_srowst one_tStr S (by rfl) 9 _ _ rfl rfl (z ++ [s[k]]) rfl tsL memA (by simp) HV.out putA ?_; clear S; intro w9 S
          (first | refine hK.out _ _ (S.sub subA) (fun _ => ?_) | (go_wp2_with fail; refine hK.out _ _ (S.sub subA) (fun _ => ?_)))
          clear hK K
          (try simp only [Act.put, List.setIfInBounds_toArray, List.set_cons_zero, List.set_cons_succ])
          refine wpAnyH_done (by kernel_rfl) ?_ _
          refine NoPanic.normal ?_
          go_wp2
          exact ⟨⟨k + 1, g, n, c, F, by omega, by simp, rfl, HN.out, S.sub subA⟩, by simp [intOf]; omega⟩
        refine rdc 6 (fun K hK => ?_) ?_
        · go_simp
          (first | refine hK.out _ _ (S.sub subA) (fun _ => ?_) | (go_wp2_with fail; refine hK.out _ _ (S.sub subA) (fun _ => ?_)))
          clear hK K
          (try simp only [Act.put, List.setIfInBounds_toArray, List.set_cons_zero, List.set_cons_succ])
          refine tk 7 ?_
          (try simp only [Act.put, List.setIfInBounds_toArray, List.set_cons_zero, List.set_cons_succ])
          refine tk 8 ?_
          (try simp only [Act.put, List.setIfInBounds_toArray, List.set_cons_zero, List.set_cons_succ])
          refine rdys [2, 9, 13] ?_
          refine rdc 2 (fun K hK => ?_) ?_
          · go_simp
            (first | refine hK.out _ _ (S.sub subA) (fun _ => ?_) | (go_wp2_with fail; refine hK.out _ _ (S.sub subA) (fun _ => ?_)))
            clear hK K
            (try simp only [Act.put, List.setIfInBounds_toArray, List.set_cons_zero, List.set_cons_succ])
            refine tk 3 ?_
            (try simp only [Act.put, List.setIfInBounds_toArray, List.set_cons_zero, List.set_cons_succ])
            refine rdys [9, 13] ?_
            refine rdc 9 (fun K hK => ?_) ?_
            · refine rgLast S memA ?_
              (first | refine hK.out _ _ (S.sub subA) (fun _ => ?_) | (go_wp2_with fail; refine hK.out _ _ (S.sub subA) (fun _ => ?_)))
              clear hK K
              (try simp only [Act.put, List.setIfInBounds_toArray, List.set_cons_zero, List.set_cons_succ])
              refine rdy1 13 (fun K hK => ?_)
              refine rgByte (s[k]) S ?_; clear S; intro g9 w9 S
              (first | refine hK.out _ _ (S.sub subA) (fun _ => ?_) | (go_wp2_with fail; refine hK.out _ _ (S.sub subA) (fun _ => ?_)))
              clear hK K
              (try simp only [Act.put, List.setIfInBounds_toArray, List.set_cons_zero, List.set_cons_succ])
              refine rdy1 14 (fun K hK => ?_)
              refine rgConv1 S memA ?_
              (first | refine hK.out _ _ (S.sub subA) (fun _ => ?_) | (go_wp2_with fail; refine hK.out _ _ (S.sub subA) (fun _ => ?_)))
              clear hK K
              (try simp only [Act.put, List.setIfInBounds_toArray, List.set_cons_zero, List.set_cons_succ])
              refine tk 15 ?_ (hy := by exact yAdd L9.out)
              (try simp only [Act.put, List.setIfInBounds_toArray, List.set_cons_zero, List.set_cons_succ])
              refine tk 16 ?_
              (try simp only [Act.put, List.setIfInBounds_toArray, List.set_cons_zero, List.set_cons_succ])
              refine rdy1 17 (fun K hK => ?_)
              refine step_srowst one_tStr S (by rfl) 9 _ _ rfl rfl (z ++ [s[k]]) rfl tsL memA (by simp) HV.out putA ?_; clear S; intro w9 S
              (first | refine hK.out _ _ (S.sub subA) (fun _ => ?_) | (go_wp2_with fail; refine hK.out _ _ (S.sub subA) (fun _ => ?_)))
              clear hK K
              (try simp only [Act.put, List.setIfInBounds_toArray, List.set_cons_zero, List.set_cons_succ])
              refine wpAnyH_done (by kernel_rfl) ?_ _
              refine NoPanic.normal ?_
              go_wp2
              exact ⟨⟨k + 1, g, n, c, F, by omega, by simp, rfl, HN.out, S.sub subA⟩, by simp [intOf]; omega⟩
            refine rdc 13 (fun K hK => ?_) AllReadyH.nil
            refine rgByte (s[k]) S ?_; clear S; intro g9 w9 S
            (first | refine hK.out _ _ (S.sub subA) (fun _ => ?_) | (go_wp2_with fail; refine hK.out _ _ (S.sub subA) (fun _ => ?_)))
            clear hK K
            (try simp only [Act.put, List.setIfInBounds_toArray, List.set_cons_zero, List.set_cons_succ])
            refine rdys [9, 14] ?_
            refine rdc 9 (fun K hK => ?_) ?_
            · refine rgLast S memA ?_
              (first | refine hK.out _ _ (S.sub subA) (fun _ => ?_) | (go_wp2_with fail; refine hK.out _ _ (S.sub subA) (fun _ => ?_)))
              clear hK K
              (try simp only [Act.put, List.setIfInBounds_toArray, List.set_cons_zero, List.set_cons_succ])
              refine rdy1 14 (fun K hK => ?_)
              refine rgConv1 S memA ?_
              (first | refine hK.out _ _ (S.sub subA) (fun _ => ?_) | (go_wp2_with fail; refine hK.out _ _ (S.sub subA) (fun _ => ?_)))
              clear hK K
              (try simp only [Act.put, List.setIfInBounds_toArray, List.set_cons_zero, List.set_cons_succ])
              refine tk 15 ?_ (hy := by exact yAdd L9.out)
              (try simp only [Act.put, List.setIfInBounds_toArray, List.set_cons_zero, List.set_cons_succ])
              refine tk 16 ?_
              (try simp only [Act.put, List.setIfInBounds_toArray, List.set_cons_zero, List.set_cons_succ])
              refine rdy1 17 (fun K hK => ?_)
              refine step_srowst one_tStr S (by rfl) 9 _ _ rfl rfl (z ++ [s[k]]) rfl tsL memA (by simp) HV.out putA ?_; clear S; intro w9 S
              (first | refine hK.out _ _ (S.sub subA) (fun _ => ?_) | (go_wp2_with fail; refine hK.out _ _ (S.sub subA) (fun _ => ?_)))
              clear hK K
              (try simp only [Act.put, List.setIfInBounds_toArray, List.set_cons_zero, List.set_cons_succ])
              refine wpAnyH_done (by kernel_rfl) ?_ _
              refine NoPanic.normal ?_
              go_wp2
              exact ⟨⟨k + 1, g, n, c, F, by omega, by simp, rfl, HN.out, S.sub subA⟩, by simp [intOf]; omega⟩
            refine rdc 14 (fun K hK => ?_) AllReadyH.nil
            refine rgConv1 S memA ?_
            (first | refine hK.out _ _ (S.sub subA) (fun _ => ?_) | (go_wp2_with fail; refine hK.out _ _ (S.sub subA) (fun _ => ?_)))
            clear hK K
            (try simp only [Act.put, List.setIfInBounds_toArray, List.set_cons_zero, List.set_cons_succ])
            refine rdy1 9 (fun K hK => ?_)
            refine rgLast S memA ?_
            (first | refine hK.out _ _ (S.sub subA) (fun _ => ?_) | (go_wp2_with fail; refine hK.out _ _ (S.sub subA) (fun _ => ?_)))
            clear hK K
            (try simp only [Act.put, List.setIfInBounds_toArray, List.set_cons_zero, List.set_cons_succ])
            refine tk 15 ?_ (hy := by exact yAdd L9.out)
            (try simp only [Act.put, List.setIfInBounds_toArray, List.set_cons_zero, List.set_cons_succ])
            refine tk 16 ?_
            (try simp only [Act.put, List.setIfInBounds_toArray, List.set_cons_zero, List.set_cons_succ])
            refine rdy1 17 (fun K hK => ?_)
            refine step_srowst one_tStr S (by rfl) 9 _ _ rfl rfl (z ++ [s[k]]) rfl tsL memA (by simp) HV.out putA ?_; clear S; intro w9 S
            (first | refine hK.out _ _ (S.sub subA) (fun _ => ?_) | (go_wp2_with fail; refine hK.out _ _ (S.sub subA) (fun _ => ?_)))
            clear hK K
            (try simp only [Act.put, List.setIfInBounds_toArray, List.set_cons_zero, List.set_cons_succ])
            refine wpAnyH_done (by kernel_rfl) ?_ _
            refine NoPanic.normal ?_
            go_wp2
            exact ⟨⟨k + 1, g, n, c, F, by omega, by simp, rfl, HN.out, S.sub subA⟩, by simp [intOf]; omega⟩
          refine rdc 9 (fun K hK => ?_) ?_
          · refine rgLast S memA ?_
            (first | refine hK.out _ _ (S.sub subA) (fun _ => ?_) | (go_wp2_with fail; refine hK.out _ _ (S.sub subA) (fun _ => ?_)))
            clear hK K
            (try simp only [Act.put, List.setIfInBounds_toArray, List.set_cons_zero, List.set_cons_succ])
            refine rdys [2, 13] ?_
            refine rdc 2 (fun K hK => ?_) ?_
            · go_simp
              (first | refine hK.out _ _ (S.sub subA) (fun _ => ?_) | (go_wp2_with fail; refine hK.out _ _ (S.sub subA) (fun _ => ?_)))
              clear hK K
              (try simp only [Act.put, List.setIfInBounds_toArray, List.set_cons_zero, List.set_cons_succ])
              refine tk 3 ?_
              (try simp only [Act.put, List.setIfInBounds_toArray, List.set_cons_zero, List.set_cons_succ])
              refine rdy1 13 (fun K hK => ?_)
              refine rgByte (s[k]) S ?_; clear S; intro g9 w9 S
              (first | refine hK.out _ _ (S.sub subA) (fun _ => ?_) | (go_wp2_with fail; refine hK.out _ _ (S.sub subA) (fun _ => ?_)))
              clear hK K
              (try simp only [Act.put, List.setIfInBounds_toArray, List.set_cons_zero, List.set_cons_succ])
              refine rdy1 14 (fun K hK => ?_)
              refine rgConv1 S memA ?_
              (first | refine hK.out _ _ (S.sub subA) (fun _ => ?_) | (go_wp2_with fail; refine hK.out _ _ (S.sub subA) (fun _ => ?_)))
              clear hK K
              (try simp only [Act.put, List.setIfInBounds_toArray, List.set_cons_zero, List.set_cons_succ])
              refine tk 15 ?_ (hy := by exact yAdd L9.out)
              (try simp only [Act.put, List.setIfInBounds_toArray, List.set_cons_zero, List.set_cons_succ])
              refine tk 16 ?_
              (try simp only [Act.put, List.setIfInBounds_toArray, List.set_cons_zero, List.set_cons_succ])
              refine rdy1 17 (fun K hK => ?_)
              refine step_srowst one_tStr S (by rfl) 9 _ _ rfl rfl (z ++ [s[k]]) rfl tsL memA (by simp) HV.out putA ?_; clear S; intro w9 S
              (first | refine hK.out _ _ (S.sub subA) (fun _ => ?_) | (go_wp2_with fail; refine hK.out _ _ (S.sub subA) (fun _ => ?_)))
              clear hK K
              (try simp only [Act.put, List.setIfInBounds_toArray, List.set_cons_zero, List.set_cons_succ])
              refine wpAnyH_done (by kernel_rfl) ?_ _
              refine NoPanic.normal ?_
              go_wp2
              exact ⟨⟨k + 1, g, n, c, F, by omega, by simp, rfl, HN.out, S.sub subA⟩, by simp [intOf]; omega⟩
            refine rdc 13 (fun K hK => ?_) AllReadyH.nil
            refine rgByte (s[k]) S ?_; clear S; intro g9 w9 S
            (first | refine hK.out _ _ (S.sub subA) (fun _ => ?_) | (go_wp2_with fail; refine hK.out _ _ (S.sub subA) (fun _ => ?_)))
            clear hK K
            (try simp only [Act.put, List.setIfInBounds_toArray, List.set_cons_zero, List.set_cons_succ])
            refine rdys [2, 14] ?_
            refine rdc 2 (fun K hK => ?_) ?_
            · go_simp
              (first | refine hK.out _ _ (S.sub subA) (fun _ => ?_) | (go_wp2_with fail; refine hK.out _ _ (S.sub subA) (fun _ => ?_)))
              clear hK K
              (try simp only [Act.put, List.setIfInBounds_toArray, List.set_cons_zero, List.set_cons_succ])
              refine tk 3 ?_
              (try simp only [Act.put, List.setIfInBounds_toArray, List.set_cons_zero, List.set_cons_succ])
              refine rdy1 14 (fun K hK => ?_)
              refine rgConv1 S memA ?_
              (first | refine hK.out _ _ (S.sub subA) (fun _ => ?_) | (go_wp2_with fail; refine hK.out _ _ (S.sub subA) (fun _ => ?_)))
              clear hK K
              (try simp only [Act.put, List.setIfInBounds_toArray, List.set_cons_zero, List.set_cons_succ])
              refine tk 15 ?_ (hy := by exact yAdd L9.out)
              (try simp only [Act.put, List.setIfInBounds_toArray, List.set_cons_zero, List.set_cons_succ])
              refine tk 16 ?_
              (try simp only [Act.put, List.setIfInBounds_toArray, List.set_cons_zero, List.set_cons_succ])
              refine rdy1 17 (fun K hK => ?_)
              refine step_srowst one_tStr S (by rfl) 9 _ _ rfl rfl (z ++ [s[k]]) rfl tsL memA (by simp) HV.out putA ?_; clear S; intro w9 S
              (first | refine hK.out _ _ (S.sub subA) (fun _ => ?_) | (go_wp2_with fail; refine hK.out _ _ (S.sub subA) (fun _ => ?_)))
              clear hK K
              (try simp only [Act.put, List.setIfInBounds_toArray, List.set_cons_zero, List.set_cons_succ])
              refine wpAnyH_done (by kernel_rfl) ?_ _
              refine NoPanic.normal ?_
              go_wp2
              exact ⟨⟨k + 1, g, n, c, F, by omega, by simp, rfl, HN.out, S.sub subA⟩, by simp [intOf]; omega⟩
            refine rdc 14 (fun K hK => ?_) AllReadyH.nil
            refine rgConv1 S memA ?_
            (first | refine hK.out _ _ (S.sub subA) (fun _ => ?_) | (go_wp2_with fail; refine hK.out _ _ (S.sub subA) (fun _ => ?_)))
            clear hK K
            (try simp only [Act.put, List.setIfInBounds_toArray, List.set_cons_zero, List.set_cons_succ])
            refine tk 15 ?_ (hy := by exact yAdd L9.out)
            (try simp only [Act.put, List.setIfInBounds_toArray, List.set_cons_zero, List.set_cons_succ])
            refine rdy1 2 (fun K hK => ?_)
            go_simp
            (first | refine hK.out _ _ (S.sub subA) (fun _ => ?_) | (go_wp2_with fail; refine hK.out _ _ (S.sub subA) (fun _ => ?_)))
            clear hK K
            (try simp only [Act.put, List.setIfInBounds_toArray, List.set_cons_zero, List.set_cons_succ])
            refine tk 3 ?_
            (try simp only [Act.put, List.setIfInBounds_toArray, List.set_cons_zero, List.set_cons_succ])
            refine tk 16 ?_
            (try simp only [Act.put, List.setIfInBounds_toArray, List.set_cons_zero, List.set_cons_succ])
            refine rdy1 17 (fun K hK => ?_)
            refine step_srowst one_tStr S (by rfl) 9 _ _ rfl rfl (z ++ [s[k]]) rfl tsL memA (by simp) HV.out putA ?_; clear S; intro w9 S
            (first | refine hK.out _ _ (S.sub subA) (fun _ => ?_) | (go_wp2_with fail; refine hK.out _ _ (S.sub subA) (fun _ => ?_)))
            clear hK K
            (try simp only [Act.put, List.setIfInBounds_toArray, List.set_cons_zero, List.set_cons_succ])
            refine wpAnyH_done (by kernel_rfl) ?_ _
            refine NoPanic.normal ?_
            go_wp2
            exact ⟨⟨k + 1, g, n, c, F, by omega, by simp, rfl, HN.out, S.sub subA⟩, by simp [intOf]; omega⟩
          refine rdc 13 (fun K hK => ?_) AllReadyH.nil
          refine rgByte (s[k]) S ?_; clear S; intro g9 w9 S
          (first | refine hK.out _ _ (S.sub subA) (fun _ => ?_) | (go_wp2_with fail; refine hK.out _ _ (S.sub subA) (fun _ => ?_)))
          clear hK K
          (try simp only [Act.put, List.setIfInBounds_toArray, List.set_cons_zero, List.set_cons_succ])
          refine rdys [2, 9, 14] ?_
          refine rdc 2 (fun K hK => ?_) ?_
          · go_simp
            (first | refine hK.out _ _ (S.sub subA) (fun _ => ?_) | (go_wp2_with fail; refine hK.out _ _ (S.sub subA) (fun _ => ?_)))
            clear hK K
            (try simp only [Act.put, List.setIfInBounds_toArray, List.set_cons_zero, List.set_cons_succ])
            refine tk 3 ?_
            (try simp only [Act.put, List.setIfInBounds_toArray, List.set_cons_zero, List.set_cons_succ])
            refine rdys [9, 14] ?_
            refine rdc 9 (fun K hK => ?_) ?_
            · refine rgLast S memA ?_
              (first | refine hK.out _ _ (S.sub subA) (fun _ => ?_) | (go_wp2_with fail; refine hK.out _ _ (S.sub subA) (fun _ => ?_)))
              clear hK K
              (try simp only [Act.put, List.setIfInBounds_toArray, List.set_cons_zero, List.set_cons_succ])
              refine rdy1 14 (fun K hK => ?_)
              refine rgConv1 S memA ?_
              (first | refine hK.out _ _ (S.sub subA) (fun _ => ?_) | (go_wp2_with fail; refine hK.out _ _ (S.sub subA) (fun _ => ?_)))
              clear hK K
              (try simp only [Act.put, List.setIfInBounds_toArray, List.set_cons_zero, List.set_cons_succ])
              refine tk 15 ?_ (hy := by exact yAdd L9.out)
              (try simp only [Act.put, List.setIfInBounds_toArray, List.set_cons_zero, List.set_cons_succ])
              refine tk 16 ?_
              (try simp only [Act.put, List.setIfInBounds_toArray, List.set_cons_zero, List.set_cons_succ])
              refine rdy1 17 (fun K hK => ?_)
              refine step_srowst one_tStr S (by rfl) 9 _ _ rfl rfl (z ++ [s[k]]) rfl tsL memA (by simp) HV.out putA ?_; clear S; intro w9 S
              (first | refine hK.out _ _ (S.sub subA) (fun _ => ?_) | (go_wp2_with fail; refine hK.out _ _ (S.sub subA) (fun _ => ?_)))
              clear hK K
              (try simp only [Act.put, List.setIfInBounds_toArray, List.set_cons_zero, List.set_cons_succ])
              refine wpAnyH_done (by kernel_rfl) ?_ _
              refine NoPanic.normal ?_
              go_wp2
              exact ⟨⟨k + 1, g, n, c, F, by omega, by simp, rfl, HN.out, S.sub subA⟩, by simp [intOf]; omega⟩
            refine rdc 14 (fun K hK => ?_) AllReadyH.nil
            refine rgConv1 S memA ?_
            (first | refine hK.out _ _ (S.sub subA) (fun _ => ?_) | (go_wp2_with fail; refine hK.out _ _ (S.sub subA) (fun _ => ?_)))
            clear hK K
            (try simp only [Act.put, List.setIfInBounds_toArray, List.set_cons_zero, List.set_cons_succ])
            refine rdy1 9 (fun K hK => ?_)
            refine rgLast S memA ?_
            (first | refine hK.out _ _ (S.sub subA) (fun _ => ?_) | (go_wp2_with fail; refine hK.out _ _ (S.sub subA) (fun _ => ?_)))
            clear hK K
            (try simp only [Act.put, List.setIfInBounds_toArray, List.set_cons_zero, List.set_cons_succ])
            refine tk 15 ?_ (hy := by exact yAdd L9.out)
            (try simp only [Act.put, List.setIfInBounds_toArray, List.set_cons_zero, List.set_cons_succ])
            refine tk 16 ?_
            (try simp only [Act.put, List.setIfInBounds_toArray, List.set_cons_zero, List.set_cons_succ])
            refine rdy1 17 (fun K hK => ?_)
            refine step_srowst one_tStr S (by rfl) 9 _ _ rfl rfl (z ++ [s[k]]) rfl tsL memA (by simp) HV.out putA ?_; clear S; intro w9 S
            (first | refine hK.out _ _ (S.sub subA) (fun _ => ?_) | (go_wp2_with fail; refine hK.out _ _ (S.sub subA) (fun _ => ?_)))
            clear hK K
            (try simp only [Act.put, List.setIfInBounds_toArray, List.set_cons_zero, List.set_cons_succ])
            refine wpAnyH_done (by kernel_rfl) ?_ _
            refine NoPanic.normal ?_
            go_wp2
            exact ⟨⟨k + 1, g, n, c, F, by omega, by simp, rfl, HN.out, S.sub subA⟩, by simp [intOf]; omega⟩
          refine rdc 9 (fun K hK => ?_) ?_
          · refine rgLast S memA ?_
            (first | refine hK.out _ _ (S.sub subA) (fun _ => ?_) | (go_wp2_with fail; refine hK.out _ _ (S.sub subA) (fun _ => ?_)))
            clear hK K
            (try simp only [Act.put, List.setIfInBounds_toArray, List.set_cons_zero, List.set_cons_succ])
            refine rdys [2, 14] ?_
            refine rdc 2 (fun K hK => ?_) ?_
            · go_simp
              (first | refine hK.out _ _ (S.sub subA) (fun _ => ?_) | (go_wp2_with fail; refine hK.out _ _ (S.sub subA) (fun _ => ?_)))
              clear hK K
              (try simp only [Act.put, List.setIfInBounds_toArray, List.set_cons_zero, List.set_cons_succ])
              refine tk 3 ?_
              (try simp only [Act.put, List.setIfInBounds_toArray, List.set_cons_zero, List.set_cons_succ])
              refine rdy1 14 (fun K hK => ?_)
              refine rgConv1 S memA ?_
              (first | refine hK.out _ _ (S.sub subA) (fun _ => ?_) | (go_wp2_with fail; refine hK.out _ _ (S.sub subA) (fun _ => ?_)))
              clear hK K
              (try simp only [Act.put, List.setIfInBounds_toArray, List.set_cons_zero, List.set_cons_succ])
              refine tk 15 ?_ (hy := by exact yAdd L9.out)
              (try simp only [Act.put, List.setIfInBounds_toArray, List.set_cons_zero, List.set_cons_succ])
              refine tk 16 ?_
              (try simp only [Act.put, List.setIfInBounds_toArray, List.set_cons_zero, List.set_cons_succ])
              refine rdy1 17 (fun K hK => ?_)
              refine step_srowst one_tStr S (by rfl) 9 _ _ rfl rfl (z ++ [s[k]]) rfl tsL memA (by simp) HV.out putA ?_; clear S; intro w9 S
              (first | refine hK.out _ _ (S.sub subA) (fun _ => ?_) | (go_wp2_with fail; refine hK.out _ _ (S.sub subA) (fun _ => ?_)))
              clear hK K
              (try simp only [Act.put, List.setIfInBounds_toArray, List.set_cons_zero, List.set_cons_succ])
              refine wpAnyH_done (by kernel_rfl) ?_ _
              refine NoPanic.normal ?_
              go_wp2
              exact ⟨⟨k + 1, g, n, c, F, by omega, by simp, rfl, HN.out, S.sub subA⟩, by simp [intOf]; omega⟩
            refine rdc 14 (fun K hK => ?_) AllReadyH.nil
            refine rgConv1 S memA ?_
            (first | refine hK.out _ _ (S.sub subA) (fun _ => ?_) | (go_wp2_with fail; refine hK.out _ _ (S.sub subA) (fun _ => ?_)))
            clear hK K
            (try simp only [Act.put, List.setIfInBounds_toArray, List.set_cons_zero, List.set_cons_succ])
            refine tk 15 ?_ (hy := by exact yAdd L9.out)
            (try simp only [Act.put, List.setIfInBounds_toArray, List.set_cons_zero, List.set_cons_succ])
            refine rdy1 2 (fun K hK => ?_)
            go_simp
            (first | refine hK.out _ _ (S.sub subA) (fun _ => ?_) | (go_wp2_with fail; refine hK.out _ _ (S.sub subA) (fun _ => ?_)))
            clear hK K
            (try simp only [Act.put, List.setIfInBounds_toArray, List.set_cons_zero, List.set_cons_succ])
            refine tk 3 ?_
            (try simp only [Act.put, List.setIfInBounds_toArray, List.set_cons_zero, List.set_cons_succ])
            refine tk 16 ?_
            (try simp only [Act.put, List.setIfInBounds_toArray, List.set_cons_zero, List.set_cons_succ])
            refine rdy1 17 (fun K hK => ?_)
            refine step_srowst one_tStr S (by rfl) 9 _ _ rfl rfl (z ++ [s[k]]) rfl tsL memA (by simp) HV.out putA ?_; clear S; intro w9 S
            (first | refine hK.out _ _ (S.sub subA) (fun _ => ?_) | (go_wp2_with fail; refine hK.out _ _ (S.sub subA) (fun _ => ?_)))
            clear hK K
            (try simp only [Act.put, List.setIfInBounds_toArray, List.set_cons_zero, List.set_cons_succ])
            refine wpAnyH_done (by kernel_rfl) ?_ _
            refine NoPanic.normal ?_
            go_wp2
            exact ⟨⟨k + 1, g, n, c, F, by omega, by simp, rfl, HN.out, S.sub subA⟩, by simp [intOf]; omega⟩
          refine rdc 14 (fun K hK => ?_) AllReadyH.nil
          refine rgConv1 S memA ?_
          (first | refine hK.out _ _ (S.sub subA) (fun _ => ?_) | (go_wp2_with fail; refine hK.out _ _ (S.sub subA) (fun _ => ?_)))
          clear hK K
          (try simp only [Act.put, List.setIfInBounds_toArray, List.set_cons_zero, List.set_cons_succ])
          refine rdys [2, 9] ?_
          refine rdc 2 (fun K hK => ?_) ?_
          · go_simp
            (first | refine hK.out _ _ (S.sub subA) (fun _ => ?_) | (go_wp2_with fail; refine hK.out _ _ (S.sub subA) (fun _ => ?_)))
            clear hK K
            (try simp only [Act.put, List.setIfInBounds_toArray, List.set_cons_zero, List.set_cons_succ])
            refine tk 3 ?_
            (try simp only [Act.put, List.setIfInBounds_toArray, List.set_cons_zero, List.set_cons_succ])
            refine rdy1 9 (fun K hK => ?_)
            refine rgLast S memA ?_
            (first | refine hK.out _ _ (S.sub subA) (fun _ => ?_) | (go_wp2_with fail; refine hK.out _ _ (S.sub subA) (fun _ => ?_)))
            clear hK K
            (try simp only [Act.put, List.setIfInBounds_toArray, List.set_cons_zero, List.set_cons_succ])
            refine tk 15 ?_ (hy := by exact yAdd L9.out)
            (try simp only [Act.put, List.setIfInBounds_toArray, List.set_cons_zero, List.set_cons_succ])
            refine tk 16 ?_
            (try simp only [Act.put, List.setIfInBounds_toArray, List.set_cons_zero, List.set_cons_succ])
            refine rdy1 17 (fun K hK => ?_)
            refine step_srowst one_tStr S (by rfl) 9 _ _ rfl rfl (z ++ [s[k]]) rfl tsL memA (by simp) HV.out putA ?_; clear S; intro w9 S
            (first | refine hK.out _ _ (S.sub subA) (fun _ => ?_) | (go_wp2_with fail; refine hK.out _ _ (S.sub subA) (fun _ => ?_)))
            clear hK K
            (try simp only [Act.put, List.setIfInBounds_toArray, List.set_cons_zero, List.set_cons_succ])
            refine wpAnyH_done (by kernel_rfl) ?_ _
            refine NoPanic.normal ?_
            go_wp2
            exact ⟨⟨k + 1, g, n, c, F, by omega, by simp, rfl, HN.out, S.sub subA⟩, by simp [intOf]; omega⟩
          refine rdc 9 (fun K hK => ?_) AllReadyH.nil
          refine rgLast S memA ?_
          (first | refine hK.out _ _ (S.sub subA) (fun _ => ?_) | (go_wp2_with fail; refine hK.out _ _ (S.sub subA) (fun _ => ?_)))
          clear hK K
          (try simp only [Act.put, List.setIfInBounds_toArray, List.set_cons_zero, List.set_cons_succ])
          refine tk 15 ?_ (hy := by exact yAdd L9.out)
          (try simp only [Act.put, List.setIfInBounds_toArray, List.set_cons_zero, List.set_cons_succ])
          refine rdy1 2 (fun K hK => ?_)
          go_simp
          (first | refine hK.out _ _ (S.sub subA) (fun _ => ?_) | (go_wp2_with fail; refine hK.out _ _ (S.sub subA) (fun _ => ?_)))
          clear hK K
          (try simp only [Act.put, List.setIfInBounds_toArray, List.set_cons_zero, List.set_cons_succ])
          refine tk 3 ?_
          (try simp only [Act.put, List.setIfInBounds_toArray, List.set_cons_zero, List.set_cons_succ])
          refine tk 16 ?_
          (try simp only [Act.put, List.setIfInBounds_toArray, List.set_cons_zero, List.set_cons_succ])
          refine rdy1 17 (fun K hK => ?_)
          refine step_srowst one_tStr S (by rfl) 9 _ _ rfl rfl (z ++ [s[k]]) rfl tsL memA (by simp) HV.out putA ?_; clear S; intro w9 S
          (first | refine hK.out _ _ (S.sub subA) (fun _ => ?_) | (go_wp2_with fail; refine hK.out _ _ (S.sub subA) (fun _ => ?_)))
          clear hK K
          (try simp only [Act.put, List.setIfInBounds_toArray, List.set_cons_zero, List.set_cons_succ])
          refine wpAnyH_done (by kernel_rfl) ?_ _
          refine NoPanic.normal ?_
          go_wp2
          exact ⟨⟨k + 1, g, n, c, F, by omega, by simp, rfl, HN.out, S.sub subA⟩, by simp [intOf]; omega⟩
        refine rdc 13 (fun K hK => ?_) AllReadyH.nil
        refine rgByte (s[k]) S ?_; clear S; intro g9 w9 S
        (first | refine hK.out _ _ (S.sub subA) (fun _ => ?_) | (go_wp2_with fail; refine hK.out _ _ (S.sub subA) (fun _ => ?_)))
        clear hK K
        (try simp only [Act.put, List.setIfInBounds_toArray, List.set_cons_zero, List.set_cons_succ])
        refine rdys [2, 6, 14] ?_
        refine rdc 2 (fun K hK => ?_) ?_
        · go_simp
          (first | refine hK.out _ _ (S.sub subA) (fun _ => ?_) | (go_wp2_with fail; refine hK.out _ _ (S.sub subA) (fun _ => ?_)))
          clear hK K
          (try simp only [Act.put, List.setIfInBounds_toArray, List.set_cons_zero, List.set_cons_succ])
          refine tk 3 ?_
          (try simp only [Act.put, List.setIfInBounds_toArray, List.set_cons_zero, List.set_cons_succ])
          refine rdys [6, 14] ?_
          refine rdc 6 (fun K hK => ?_) ?_
          · go_simp
            (first | refine hK.out _ _ (S.sub subA) (fun _ => ?_) | (go_wp2_with fail; refine hK.out _ _ (S.sub subA) (fun _ => ?_)))
            clear hK K
            (try simp only [Act.put, List.setIfInBounds_toArray, List.set_cons_zero, List.set_cons_succ])
            refine tk 7 ?_
            (try simp only [Act.put, List.setIfInBounds_toArray, List.set_cons_zero, List.set_cons_succ])
            refine tk 8 ?_
            (try simp only [Act.put, List.setIfInBounds_toArray, List.set_cons_zero, List.set_cons_succ])
            refine rdys [9, 14] ?_
            refine rdc 9 (fun K hK => ?_) ?_
            · refine rgLast S memA ?_
              (first | refine hK.out _ _ (S.sub subA) (fun _ => ?_) | (go_wp2_with fail; refine hK.out _ _ (S.sub subA) (fun _ => ?_)))
              clear hK K
              (try simp only [Act.put, List.setIfInBounds_toArray, List.set_cons_zero, List.set_cons_succ])
              refine rdy1 14 (fun K hK => ?_)
              refine rgConv1 S memA ?_
              (first | refine hK.out _ _ (S.sub subA) (fun _ => ?_) | (go_wp2_with fail; refine hK.out _ _ (S.sub subA) (fun _ => ?_)))
              clear hK K
              (try simp only [Act.put, List.setIfInBounds_toArray, List.set_cons_zero, List.set_cons_succ])
              refine tk 15 ?_ (hy := by exact yAdd L9.out)
              (try simp only [Act.put, List.setIfInBounds_toArray, List.set_cons_zero, List.set_cons_succ])
              refine tk 16 ?_
              (try simp only [Act.put, List.setIfInBounds_toArray, List.set_cons_zero, List.set_cons_succ])
              refine rdy1 17 (fun K hK => ?_)
              refine step_srowst one_tStr S (by rfl) 9 _ _ rfl rfl (z ++ [s[k]]) rfl tsL memA (by simp) HV.out putA ?_; clear S; intro w9 S
              (first | refine hK.out _ _ (S.sub subA) (fun _ => ?_) | (go_wp2_with fail; refine hK.out _ _ (S.sub subA) (fun _ => ?_)))
              clear hK K
              (try simp only [Act.put, List.setIfInBounds_toArray, List.set_cons_zero, List.set_cons_succ])
              refine wpAnyH_done (by kernel_rfl) ?_ _
              refine NoPanic.normal ?_
              go_wp2
              exact ⟨⟨k + 1, g, n, c, F, by omega, by simp, rfl, HN.out, S.sub subA⟩, by simp [intOf]; omega⟩
            refine rdc 14 (fun K hK => ?_) AllReadyH.nil
            refine rgConv1 S memA ?_
            (first | refine hK.out _ _ (S.sub subA) (fun _ => ?_) | (go_wp2_with fail; refine hK.out _ _ (S.sub subA) (fun _ => ?_)))
            clear hK K
            (try simp only [Act.put, List.setIfInBounds_toArray, List.set_cons_zero, List.set_cons_succ])
            refine rdy1 9 (fun K hK => ?_)
            refine rgLast S memA ?_
            (first | refine hK.out _ _ (S.sub subA) (fun _ => ?_) | (go_wp2_with fail; refine hK.out _ _ (S.sub subA) (fun _ => ?_)))
            clear hK K
            (try simp only [Act.put, List.setIfInBounds_toArray, List.set_cons_zero, List.set_cons_succ])
            refine tk 15 ?_ (hy := by exact yAdd L9.out)
            (try simp only [Act.put, List.setIfInBounds_toArray, List.set_cons_zero, List.set_cons_succ])
            refine tk 16 ?_
            (try simp only [Act.put, List.setIfInBounds_toArray, List.set_cons_zero, List.set_cons_succ])
            refine rdy1 17 (fun K hK => ?_)
            refine step_srowst one_tStr S (by rfl) 9 _ _ rfl rfl (z ++ [s[k]]) rfl tsL memA (by simp) HV.out putA ?_; clear S; intro w9 S
            (first | refine hK.out _ _ (S.sub subA) (fun _ => ?_) | (go_wp2_with fail; refine hK.out _ _ (S.sub subA) (fun _ => ?_)))
            clear hK K
            (try simp only [Act.put, List.setIfInBounds_toArray, List.set_cons_zero, List.set_cons_succ])
            refine wpAnyH_done (by kernel_rfl) ?_ _
            refine NoPanic.normal ?_
            go_wp2
            exact ⟨⟨k + 1, g, n, c, F, by omega, by simp, rfl, HN.out, S.sub subA⟩, by simp [intOf]; omega⟩
          refine rdc 14 (fun K hK => ?_) AllReadyH.nil
          refine rgConv1 S memA ?_
          (first | refine hK.out _ _ (S.sub subA) (fun _ => ?_) | (go_wp2_with fail; refine hK.out _ _ (S.sub subA) (fun _ => ?_)))
          clear hK K
          (try simp only [Act.put, List.setIfInBounds_toArray, List.set_cons_zero, List.set_cons_succ])
          refine rdy1 6 (fun K hK => ?_)
          go_simp
          (first | refine hK.out _ _ (S.sub subA) (fun _ => ?_) | (go_wp2_with fail; refine hK.out _ _ (S.sub subA) (fun _ => ?_)))
          clear hK K
          (try simp only [Act.put, List.setIfInBounds_toArray, List.set_cons_zero, List.set_cons_succ])
          refine tk 7 ?_
          (try simp only [Act.put, List.setIfInBounds_toArray, List.set_cons_zero, List.set_cons_succ])
          refine tk 8 ?_
          (try simp only [Act.put, List.setIfInBounds_toArray, List.set_cons_zero, List.set_cons_succ])
          refine rdy1 9 (fun K hK => ?_)
          refine rgLast S memA ?_
          (first | refine hK.out _ _ (S.sub subA) (fun _ => ?_) | (go_wp2_with fail; refine hK.out _ _ (S.sub subA) (fun _ => ?_)))
          clear hK K
          (try simp only [Act.put, List.setIfInBounds_toArray, List.set_cons_zero, List.set_cons_succ])
          refine tk 15 ?_ (hy := by exact yAdd L9.out)
          (try simp only [Act.put, List.setIfInBounds_toArray, List.set_cons_zero, List.set_cons_succ])
          refine tk 16 ?_
          (try simp only [Act.put, List.setIfInBounds_toArray, List.set_cons_zero, List.set_cons_succ])
          refine rdy1 17 (fun K hK => ?_)
          refine step_srowst one_tStr S (by rfl) 9 _ _ rfl rfl (z ++ [s[k]]) rfl tsL memA (by simp) HV.out putA ?_; clear S; intro w9 S
          (first | refine hK.out _ _ (S.sub subA) (fun _ => ?_) | (go_wp2_with fail; refine hK.out _ _ (S.sub subA) (fun _ => ?_)))
          clear hK K
          (try simp only [Act.put, List.setIfInBounds_toArray, List.set_cons_zero, List.set_cons_succ])
          refine wpAnyH_done (by kernel_rfl) ?_ _
          refine NoPanic.normal ?_
          go_wp2
          exact ⟨⟨k + 1, g, n, c, F, by omega, by simp, rfl, HN.out, S.sub subA⟩, by simp [intOf]; omega⟩
        refine rdc 6 (fun K hK => ?_) ?_
        · go_simp
          (first | refine hK.out _ _ (S.sub subA) (fun _ => ?_) | (go_wp2_with fail; refine hK.out _ _ (S.sub subA) (fun _ => ?_)))
          clear hK K
          (try simp only [Act.put, List.setIfInBounds_toArray, List.set_cons_zero, List.set_cons_succ])
          refine tk 7 ?_
          (try simp only [Act.put, List.setIfInBounds_toArray, List.set_cons_zero, List.set_cons_succ])
          refine tk 8 ?_
          (try simp only [Act.put, List.setIfInBounds_toArray, List.set_cons_zero, List.set_cons_succ])
          refine rdys [2, 9, 14] ?_
          refine rdc 2 (fun K hK => ?_) ?_
          · go_simp
            (first | refine hK.out _ _ (S.sub subA) (fun _ => ?_) | (go_wp2_with fail; refine hK.out _ _ (S.sub subA) (fun _ => ?_)))
            clear hK K
            (try simp only [Act.put, List.setIfInBounds_toArray, List.set_cons_zero, List.set_cons_succ])
            refine tk 3 ?_
            (try simp only [Act.put, List.setIfInBounds_toArray, List.set_cons_zero, List.set_cons_succ])
            refine rdys [9, 14] ?_
            refine rdc 9 (fun K hK => ?_) ?_
            · refine rgLast S memA ?_
              (first | refine hK.out _ _ (S.sub subA) (fun _ => ?_) | (go_wp2_with fail; refine hK.out _ _ (S.sub subA) (fun _ => ?_)))
              clear hK K
              (try simp only [Act.put, List.setIfInBounds_toArray, List.set_cons_zero, List.set_cons_succ])
              refine rdy1 14 (fun K hK => ?_)
              refine rgConv1 S memA ?_
              (first | refine hK.out _ _ (S.sub subA) (fun _ => ?_) | (go_wp2_with fail; refine hK.out _ _ (S.sub subA) (fun _ => ?_)))
              clear hK K
              (try simp only [Act.put, List.setIfInBounds_toArray, List.set_cons_zero, List.set_cons_succ])
              refine tk 15 ?_ (hy := by exact yAdd L9.out)
              (try simp only [Act.put, List.setIfInBounds_toArray, List.set_cons_zero, List.set_cons_succ])
              refine tk 16 ?_
              (try simp only [Act.put, List.setIfInBounds_toArray, List.set_cons_zero, List.set_cons_succ])
              refine rdy1 17 (fun K hK => ?_)
              refine step_srowst one_tStr S (by rfl) 9 _ _ rfl rfl (z ++ [s[k]]) rfl tsL memA (by simp) HV.out putA ?_; clear S; intro w9 S
              (first | refine hK.out _ _ (S.sub subA) (fun _ => ?_) | (go_wp2_with fail; refine hK.out _ _ (S.sub subA) (fun _ => ?_)))
              clear hK K
              (try simp only [Act.put, List.setIfInBounds_toArray, List.set_cons_zero, List.set_cons_succ])
              refine wpAnyH_done (by kernel_rfl) ?_ _
              refine NoPanic.normal ?_
              go_wp2
              exact ⟨⟨k + 1, g, n, c, F, by omega, by simp, rfl, HN.out, S.sub subA⟩, by simp [intOf]; omega⟩
            refine rdc 14 (fun K hK => ?_) AllReadyH.nil
            refine rgConv1 S memA ?_
            (first | refine hK.out _ _ (S.sub subA) (fun _ => ?_) | (go_wp2_with fail; refine hK.out _ _ (S.sub subA) (fun _ => ?_)))
            clear hK K
            (try simp only [Act.put, List.setIfInBounds_toArray, List.set_cons_zero, List.set_cons_succ])
            refine rdy1 9 (fun K hK => ?_)
            refine rgLast S memA ?_
            (first | refine hK.out _ _ (S.sub subA) (fun _ => ?_) | (go_wp2_with fail; refine hK.out _ _ (S.sub subA) (fun _ => ?_)))
            clear hK K
            (try simp only [Act.put, List.setIfInBounds_toArray, List.set_cons_zero, List.set_cons_succ])
            refine tk 15 ?_ (hy := by exact yAdd L9.out)
            (try simp only [Act.put, List.setIfInBounds_toArray, List.set_cons_zero, List.set_cons_succ])
            refine tk 16 ?_
            (try simp only [Act.put, List.setIfInBounds_toArray, List.set_cons_zero, List.set_cons_succ])
            refine rdy1 17 (fun K hK => ?_)
            refine step_srowst one_tStr S (by rfl) 9 _ _ rfl rfl (z ++ [s[k]]) rfl tsL memA (by simp) HV.out putA ?_; clear S; intro w9 S
            (first | refine hK.out _ _ (S.sub subA) (fun _ => ?_) | (go_wp2_with fail; refine hK.out _ _ (S.sub subA) (fun _ => ?_)))
            clear hK K
            (try simp only [Act.put, List.setIfInBounds_toArray, List.set_cons_zero, List.set_cons_succ])
            refine wpAnyH_done (by kernel_rfl) ?_ _
            refine NoPanic.normal ?_
            go_wp2
            exact ⟨⟨k + 1, g, n, c, F, by omega, by simp, rfl, HN.out, S.sub subA⟩, by simp [intOf]; omega⟩
          refine rdc 9 (fun K hK => ?_) ?_
          · refine rgLast S memA ?_
            (first | refine hK.out _ _ (S.sub subA) (fun _ => ?_) | (go_wp2_with fail; refine hK.out _ _ (S.sub subA) (fun _ => ?_)))
            clear hK K
            (try simp only [Act.put, List.setIfInBounds_toArray, List.set_cons_zero, List.set_cons_succ])
            refine rdys [2, 14] ?_
            refine rdc 2 (fun K hK => ?_) ?_
            · go_simp
              (first | refine hK.out _ _ (S.sub subA) (fun _ => ?_) | (go_wp2_with fail; refine hK.out _ _ (S.sub subA) (fun _ => ?_)))
              clear hK K
              (try simp only [Act.put, List.setIfInBounds_toArray, List.set_cons_zero, List.set_cons_succ])
              refine tk 3 ?_
              (try simp only [Act.put, List.setIfInBounds_toArray, List.set_cons_zero, List.set_cons_succ])
              refine rdy1 14 (fun K hK => ?_)
              refine rgConv1 S memA ?_
              (first | refine hK.out _ _ (S.sub subA) (fun _ => ?_) | (go_wp2_with fail; refine hK.out _ _ (S.sub subA) (fun _ => ?_)))
              clear hK K
              (try simp only [Act.put, List.setIfInBounds_toArray, List.set_cons_zero, List.set_cons_succ])
              refine tk 15 ?_ (hy := by exact yAdd L9.out)
              (try simp only [Act.put, List.setIfInBounds_toArray, List.set_cons_zero, List.set_cons_succ])
              refine tk 16 ?_
              (try simp only [Act.put, List.setIfInBounds_toArray, List.set_cons_zero, List.set_cons_succ])
              refine rdy1 17 (fun K hK => ?_)
              refine step_srowst one_tStr S (by rfl) 9 _ _ rfl rfl (z ++ [s[k]]) rfl tsL memA (by simp) HV.out putA ?_; clear S; intro w9 S
              (first | refine hK.out _ _ (S.sub subA) (fun _ => ?_) | (go_wp2_with fail; refine hK.out _ _ (S.sub subA) (fun _ => ?_)))
              clear hK K
              (try simp only [Act.put, List.setIfInBounds_toArray, List.set_cons_zero, List.set_cons_succ])
              refine wpAnyH_done (by kernel_rfl) ?_ _
              refine NoPanic.normal ?_
              go_wp2
              exact ⟨⟨k + 1, g, n, c, F, by omega, by simp, rfl, HN.out, S.sub subA⟩, by simp [intOf]; omega⟩
            refine rdc 14 (fun K hK => ?_) AllReadyH.nil
            refine rgConv1 S memA ?_
            (first | refine hK.out _ _ (S.sub subA) (fun _ => ?_) | (go_wp2_with fail; refine hK.out _ _ (S.sub subA) (fun _ => ?_)))
            clear hK K
            (try simp only [Act.put, List.setIfInBounds_toArray, List.set_cons_zero, List.set_cons_succ])
            refine tk 15 ?_ (hy := by exact yAdd L9.out)
            (try simp only [Act.put, List.setIfInBounds_toArray, List.set_cons_zero, List.set_cons_succ])
            refine rdy1 2 (fun K hK => ?_)
            go_simp
            (first | refine hK.out _ _ (S.sub subA) (fun _ => ?_) | (go_wp2_with fail; refine hK.out _ _ (S.sub subA) (fun _ => ?_)))
            clear hK K
            (try simp only [Act.put, List.setIfInBounds_toArray, List.set_cons_zero, List.set_cons_succ])
            refine tk 3 ?_
            (try simp only [Act.put, List.setIfInBounds_toArray, List.set_cons_zero, List.set_cons_succ])
            refine tk 16 ?_
            (try simp only [Act.put, List.setIfInBounds_toArray, List.set_cons_zero, List.set_cons_succ])
            refine rdy1 17 (fun K hK => ?_)
            refine step_srowst one_tStr S (by rfl) 9 _ _ rfl rfl (z ++ [s[k]]) rfl tsL memA (by simp) HV.out putA ?_; clear S; intro w9 S
            (first | refine hK.out _ _ (S.sub subA) (fun _ => ?_) | (go_wp2_with fail; refine hK.out _ _ (S.sub subA) (fun _ => ?_)))
            clear hK K
            (try simp only [Act.put, List.setIfInBounds_toArray, List.set_cons_zero, List.set_cons_succ])
            refine wpAnyH_done (by kernel_rfl) ?_ _
            refine NoPanic.normal ?_
            go_wp2
            exact ⟨⟨k + 1, g, n, c, F, by omega, by simp, rfl, HN.out, S.sub subA⟩, by simp [intOf]; omega⟩
          refine rdc 14 (fun K hK => ?_) AllReadyH.nil
          refine rgConv1 S memA ?_
          (first | refine hK.out _ _ (S.sub subA) (fun _ => ?_) | (go_wp2_with fail; refine hK.out _ _ (S.sub subA) (fun _ => ?_)))
          clear hK K
          (try simp only [Act.put, List.setIfInBounds_toArray, List.set_cons_zero, List.set_cons_succ])
          refine rdys [2, 9] ?_
          refine rdc 2 (fun K hK => ?_) ?_
          · go_simp
            (first | refine hK.out _ _ (S.sub subA) (fun _ => ?_) | (go_wp2_with fail; refine hK.out _ _ (S.sub subA) (fun _ => ?_)))
            clear hK K
            (try simp only [Act.put, List.setIfInBounds_toArray, List.set_cons_zero, List.set_cons_succ])
            refine tk 3 ?_
            (try simp only [Act.put, List.setIfInBounds_toArray, List.set_cons_zero, List.set_cons_succ])
            refine rdy1 9 (fun K hK => ?_)
            refine rgLast S memA ?_
            (first | refine hK.out _ _ (S.sub subA) (fun _ => ?_) | (go_wp2_with fail; refine hK.out _ _ (S.sub subA) (fun _ => ?_)))
            clear hK K
            (try simp only [Act.put, List.setIfInBounds_toArray, List.set_cons_zero, List.set_cons_succ])
            refine tk 15 ?_ (hy := by exact yAdd L9.out)
            (try simp only [Act.put, List.setIfInBounds_toArray, List.set_cons_zero, List.set_cons_succ])
            refine tk 16 ?_
            (try simp only [Act.put, List.setIfInBounds_toArray, List.set_cons_zero, List.set_cons_succ])
            refine rdy1 17 (fun K hK => ?_)
            refine step_srowst one_tStr S (by rfl) 9 _ _ rfl rfl (z ++ [s[k]]) rfl tsL memA (by simp) HV.out putA ?_; clear S; intro w9 S
            (first | refine hK.out _ _ (S.sub subA) (fun _ => ?_) | (go_wp2_with fail; refine hK.out _ _ (S.sub subA) (fun _ => ?_)))
            clear hK K
            (try simp only [Act.put, List.setIfInBounds_toArray, List.set_cons_zero, List.set_cons_succ])
            refine wpAnyH_done (by kernel_rfl) ?_ _
            refine NoPanic.normal ?_
            go_wp2
            exact ⟨⟨k + 1, g, n, c, F, by omega, by simp, rfl, HN.out, S.sub subA⟩, by simp [intOf]; omega⟩
          refine rdc 9 (fun K hK => ?_) AllReadyH.nil
          refine rgLast S memA ?_
          (first | refine hK.out _ _ (S.sub subA) (fun _ => ?_) | (go_wp2_with fail; refine hK.out _ _ (S.sub subA) (fun _ => ?_)))
          clear hK K
          (try simp only [Act.put, List.setIfInBounds_toArray, List.set_cons_zero, List.set_cons_succ])
          refine tk 15 ?_ (hy := by exact yAdd L9.out)
          (try simp only [Act.put, List.setIfInBounds_toArray, List.set_cons_zero, List.set_cons_succ])
          refine rdy1 2 (fun K hK => ?_)
          go_simp
          (first | refine hK.out _ _ (S.sub subA) (fun _ => ?_) | (go_wp2_with fail; refine hK.out _ _ (S.sub subA) (fun _ => ?_)))
          clear hK K
          (try simp only [Act.put, List.setIfInBounds_toArray, List.set_cons_zero, List.set_cons_succ])
          refine tk 3 ?_
          (try simp only [Act.put, List.setIfInBounds_toArray, List.set_cons_zero, List.set_cons_succ])
          refine tk 16 ?_
          (try simp only [Act.put, List.setIfInBounds_toArray, List.set_cons_zero, List.set_cons_succ])
          refine rdy1 17 (fun K hK => ?_)
          refine step_srowst one_tStr S (by rfl) 9 _ _ rfl rfl (z ++ [s[k]]) rfl tsL memA (by simp) HV.out putA ?_; clear S; intro w9 S
          (first | refine hK.out _ _ (S.sub subA) (fun _ => ?_) | (go_wp2_with fail; refine hK.out _ _ (S.sub subA) (fun _ => ?_)))
          clear hK K
          (try simp only [Act.put, List.setIfInBounds_toArray, List.set_cons_zero, List.set_cons_succ])
          refine wpAnyH_done (by kernel_rfl) ?_ _
          refine NoPanic.normal ?_
          go_wp2
          exact ⟨⟨k + 1, g, n, c, F, by omega, by simp, rfl, HN.out, S.sub subA⟩, by simp [intOf]; omega⟩
        refine rdc 14 (fun K hK => ?_) AllReadyH.nil
        refine rgConv1 S memA ?_
        (first | refine hK.out _ _ (S.sub subA) (fun _ => ?_) | (go_wp2_with fail; refine hK.out _ _ (S.sub subA) (fun _ => ?_)))
        clear hK K
        (try simp only [Act.put, List.setIfInBounds_toArray, List.set_cons_zero, List.set_cons_succ])
        refine rdys [2, 6] ?_
        refine rdc 2 (fun K hK => ?_) ?_
        · go_simp
          (first | refine hK.out _ _ (S.sub subA) (fun _ => ?_) | (go_wp2_with fail; refine hK.out _ _ (S.sub subA) (fun _ => ?_)))
          clear hK K
          (try simp only [Act.put, List.setIfInBounds_toArray, List.set_cons_zero, List.set_cons_succ])
          refine tk 3 ?_
          (try simp only [Act.put, List.setIfInBounds_toArray, List.set_cons_zero, List.set_cons_succ])
          refine rdy1 6 (fun K hK => ?_)
          go_simp
          (first | refine hK.out _ _ (S.sub subA) (fun _ => ?_) | (go_wp2_with fail; refine hK.out _ _ (S.sub subA) (fun _ => ?_)))
          clear hK K
          (try simp only [Act.put, List.setIfInBounds_toArray, List.set_cons_zero, List.set_cons_succ])
          refine tk 7 ?_
          (try simp only [Act.put, List.setIfInBounds_toArray, List.set_cons_zero, List.set_cons_succ])
          refine tk 8 ?_
          (try simp only [Act.put, List.setIfInBounds_toArray, List.set_cons_zero, List.set_cons_succ])
          refine rdy1 9 (fun K hK => ?_)
          refine rgLast S memA ?_
          (first | refine hK.out _ _ (S.sub subA) (fun _ => ?_) | (go_wp2_with fail; refine hK.out _ _ (S.sub subA) (fun _ => ?_)))
          clear hK K
          (try simp only [Act.put, List.setIfInBounds_toArray, List.set_cons_zero, List.set_cons_succ])
          refine tk 15 ?_ (hy := by exact yAdd L9.out)
          (try simp only [Act.put, List.setIfInBounds_toArray, List.set_cons_zero, List.set_cons_succ])
          refine tk 16 ?_
          (try simp only [Act.put, List.setIfInBounds_toArray, List.set_cons_zero, List.set_cons_succ])
          refine rdy1 17 (fun K hK => ?_)
          refine step_srowst one_tStr S (by rfl) 9 _ _ rfl rfl (z ++ [s[k]]) rfl tsL memA (by simp) HV.out putA ?_; clear S; intro w9 S
          (first | refine hK.out _ _ (S.sub subA) (fun _ => ?_) | (go_wp2_with fail; refine hK.out _ _ (S.sub subA) (fun _ => ?_)))
          clear hK K
          (try simp only [Act.put, List.setIfInBounds_toArray, List.set_cons_zero, List.set_cons_succ])
          refine wpAnyH_done (by kernel_rfl) ?_ _
          refine NoPanic.normal ?_
          go_wp2
          exact ⟨⟨k + 1, g, n, c, F, by omega, by simp, rfl, HN.out, S.sub subA⟩, by simp [intOf]; omega⟩
        refine rdc 6 (fun K hK => ?_) AllReadyH.nil
        go_simp
        (first | refine hK.out _ _ (S.sub subA) (fun _ => ?_) | (go_wp2_with fail; refine hK.out _ _ (S.sub subA) (fun _ => ?_)))
        clear hK K
        (try simp only [Act.put, List.setIfInBounds_toArray, List.set_cons_zero, List.set_cons_succ])
        refine tk 7 ?_
        (try simp only [Act.put, List.setIfInBounds_toArray, List.set_cons_zero, List.set_cons_succ])
        refine tk 8 ?_
        (try simp only [Act.put, List.setIfInBounds_toArray, List.set_cons_zero, List.set_cons_succ])
        refine rdys [2, 9] ?_
        refine rdc 2 (fun K hK => ?_) ?_
        · go_simp
          (first | refine hK.out _ _ (S.sub subA) (fun _ => ?_) | (go_wp2_with fail; refine hK.out _ _ (S.sub subA) (fun _ => ?_)))
          clear hK K
          (try simp only [Act.put, List.setIfInBounds_toArray, List.set_cons_zero, List.set_cons_succ])
          refine tk 3 ?_
          (try simp only [Act.put, List.setIfInBounds_toArray, List.set_cons_zero, List.set_cons_succ])
          refine rdy1 9 (fun K hK => ?_)
          refine rgLast S memA ?_
          (first | refine hK.out _ _ (S.sub subA) (fun _ => ?_) | (go_wp2_with fail; refine hK.out _ _ (S.sub subA) (fun _ => ?_)))
          clear hK K
          (try simp only [Act.put, List.setIfInBounds_toArray, List.set_cons_zero, List.set_cons_succ])
          refine tk 15 ?_ (hy := by exact yAdd L9.out)
          (try simp only [Act.put, List.setIfInBounds_toArray, List.set_cons_zero, List.set_cons_succ])
          refine tk 16 ?_
          (try simp only [Act.put, List.setIfInBounds_toArray, List.set_cons_zero, List.set_cons_succ])
          refine rdy1 17 (fun K hK => ?_)
          refine step_srowst one_tStr S (by rfl) 9 _ _ rfl rfl (z ++ [s[k]]) rfl tsL memA (by simp) HV.out putA ?_; clear S; intro w9 S
          (first | refine hK.out _ _ (S.sub subA) (fun _ => ?_) | (go_wp2_with fail; refine hK.out _ _ (S.sub subA) (fun _ => ?_)))
          clear hK K
          (try simp only [Act.put, List.setIfInBounds_toArray, List.set_cons_zero, List.set_cons_succ])
          refine wpAnyH_done (by kernel_rfl) ?_ _
          refine NoPanic.normal ?_
          go_wp2
          exact ⟨⟨k + 1, g, n, c, F, by omega, by simp, rfl, HN.out, S.sub subA⟩, by simp [intOf]; omega⟩
        refine rdc 9 (fun K hK => ?_) AllReadyH.nil
        refine rgLast S memA ?_
        (first | refine hK.out _ _ (S.sub subA) (fun _ => ?_) | (go_wp2_with fail; refine hK.out _ _ (S.sub subA) (fun _ => ?_)))
        clear hK K
        (try simp only [Act.put, List.setIfInBounds_toArray, List.set_cons_zero, List.set_cons_succ])
        refine tk 15 ?_ (hy := by exact yAdd L9.out)
        (try simp only [Act.put, List.setIfInBounds_toArray, List.set_cons_zero, List.set_cons_succ])
        refine rdy1 2 (fun K hK => ?_)
        go_simp
        (first | refine hK.out _ _ (S.sub subA) (fun _ => ?_) | (go_wp2_with fail; refine hK.out _ _ (S.sub subA) (fun _ => ?_)))
        clear hK K
        (try simp only [Act.put, List.setIfInBounds_toArray, List.set_cons_zero, List.set_cons_succ])
        refine tk 3 ?_
        (try simp only [Act.put, List.setIfInBounds_toArray, List.set_cons_zero, List.set_cons_succ])
        refine tk 16 ?_
        (try simp only [Act.put, List.setIfInBounds_toArray, List.set_cons_zero, List.set_cons_succ])
        refine rdy1 17 (fun K hK => ?_)
        refine step_srowst one_tStr S (by rfl) 9 _ _ rfl rfl (z ++ [s[k]]) rfl tsL memA (by simp) HV.out putA ?_; clear S; intro w9 S
        (first | refine hK.out _ _ (S.sub subA) (fun _ => ?_) | (go_wp2_with fail; refine hK.out _ _ (S.sub subA) (fun _ => ?_)))
        clear hK K
        (try simp only [Act.put, List.setIfInBounds_toArray, List.set_cons_zero, List.set_cons_succ])
        refine wpAnyH_done (by kernel_rfl) ?_ _
        refine NoPanic.normal ?_
        go_wp2
        exact ⟨⟨k + 1, g, n, c, F, by omega, by simp, rfl, HN.out, S.sub subA⟩, by simp [intOf]; omega⟩
    · obtain rfl : k = s.length := by omega
      rw [List.take_length] at S hn
      have hn := Lib.hid hn
      go_wp2
      go_ret
      exact S.retRow (v := .slice (some ⟨g, 0, none⟩) n c) List.mem_cons_self
end Go.Proofs.YtphojlkljlnfjaaDoor
