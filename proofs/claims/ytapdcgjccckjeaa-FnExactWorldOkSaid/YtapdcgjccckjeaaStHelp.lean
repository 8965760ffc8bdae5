/- What the laws' helpers for states come to: size, marks, marks read again, copy. -/
import Derived.Test.YtapdcgjccckjeaaSep2
import Derived.Test.YtapdcgjccckjeaaTypes
import Derived.Test.YtapdcgjccckjeaaSt
import Derived.Test.YtapdcgjccckjeaaPkMark
import Derived.Test.YtapdcgjccckjeaaStMark
namespace Go.Proofs.Ytapdcgjccckjeaa
set_option maxRecDepth 100000
set_option linter.unusedVariables false
set_option linter.unusedSimpArgs false
open Go.RowKit
def cntSt (s : St) : Nat := s.sent.length + (s.live.length + (s.back.length + s.got.length))
def cntMSt (s : St) : Nat := 7 * s.sent.length + (s.live.length + (s.back.length + s.got.length))
def markSt (q : Int) (s : St) : St := { s with sent := marksP q s.sent.length, live := marksB (q + 7 * s.sent.length) s.live.length, back := marksB (q + 7 * s.sent.length + s.live.length) s.back.length, got := marksI (q + 7 * s.sent.length + s.live.length + s.back.length) s.got.length }
def Small (s : St) : Prop := s.sent.length ≤ 2097152 ∧ s.live.length ≤ 2097152 ∧ s.back.length ≤ 2097152 ∧ s.got.length ≤ 2097152
section
variable {F0 : List Nat} {w0 w : World} {L : List Asrt} {s : St} {cs : List Value} {F : List Nat}
theorem Sep.openSt (S : Sep F0 w0 (aOwn tSt s cs F :: L) w) : ∃ A1 c1 A2 c2 A3 c3 A4 c4 F1 F2 F3 F4, cs = [.int .i64 s.way, .int .i64 s.vsn, .int .i64 s.want, .slice A1 s.sent.length c1, .slice A2 s.live.length c2, .slice A3 s.back.length c3, .slice A4 s.got.length c4] ∧ F = F1 ++ (F2 ++ (F3 ++ F4)) ∧ (I64 s.way ∧ I64 s.vsn ∧ I64 s.want) ∧
    Sep F0 w0 (aRow tPk 88 s.sent (.slice A1 s.sent.length c1) F1 :: aRow tBool 4 s.live (.slice A2 s.live.length c2) F2 :: aRow tBool 4 s.back (.slice A3 s.back.length c3) F3 :: aRow tInt 3 s.got (.slice A4 s.got.length c4) F4 :: L) w := by
  have h := S.own (d := tSt) (x := s) (cs := cs) (F := F) (by simp)
  obtain ⟨v1, v2, v3, v4, F1, F2, F3, F4, rfl, rfl, h1, h2, h3, h4, h5⟩ := h
  obtain ⟨A1, c1, rfl⟩ := h1.row.val
  obtain ⟨A2, c2, rfl⟩ := h2.row.val
  obtain ⟨A3, c3, rfl⟩ := h3.row.val
  obtain ⟨A4, c4, rfl⟩ := h4.row.val
  refine ⟨A1, c1, A2, c2, A3, c3, A4, c4, F1, F2, F3, F4, rfl, rfl, h5, S.conv [aRow tPk 88 s.sent _ F1, aRow tBool 4 s.live _ F2, aRow tBool 4 s.back _ F3, aRow tInt 3 s.got _ F4] (by simp [fps, aRow, aOwn]) ?_⟩
  intro x hx
  simp only [List.mem_cons, List.not_mem_nil, or_false] at hx
  rcases hx with rfl | rfl | rfl | rfl
  · exact h1
  · exact h2
  · exact h3
  · exact h4
theorem Sep.shutSt {x y z : Int} {ps : List Pk} {bs cs : List Bool} {gs : List Int} {v1 v2 v3 v4 : Value} {F1 F2 F3 F4 : List Nat} (S : Sep F0 w0 (aRow tPk 88 ps v1 F1 :: aRow tBool 4 bs v2 F2 :: aRow tBool 4 cs v3 F3 :: aRow tInt 3 gs v4 F4 :: L) w) (hI : I64 x ∧ I64 y ∧ I64 z) :
    Sep F0 w0 (aOwn tSt ⟨x, y, z, ps, bs, cs, gs⟩ [.int .i64 x, .int .i64 y, .int .i64 z, v1, v2, v3, v4] (F1 ++ (F2 ++ (F3 ++ F4))) :: L) w := by
  refine Sep.join [aRow tPk 88 ps v1 F1, aRow tBool 4 bs v2 F2, aRow tBool 4 cs v3 F3, aRow tInt 3 gs v4 F4] S _ (by simp [fps, aRow, aOwn]) fun h => ?_
  exact ⟨v1, v2, v3, v4, F1, F2, F3, F4, rfl, rfl, h (aRow tPk 88 ps v1 F1) (by simp), h (aRow tBool 4 bs v2 F2) (by simp), h (aRow tBool 4 cs v3 F3) (by simp), h (aRow tInt 3 gs v4 F4) (by simp), hI⟩
end
theorem szr_yes {l : Int} {n : Nat} (h : (n : Int) ≤ l) : szr l n = l - n := if_pos h
theorem szr_no {l : Int} {n : Nat} (h : ¬ (n : Int) ≤ l) : szr l n = -1 := if_neg h
set_option maxHeartbeats 1600000 in
theorem szState_c (w : World) (s : St) (c1 : List Value) (left : Int) (h1 : tSt.rd w s c1) (hl0 : 0 ≤ left) (hl1 : left ≤ 1048576) :
    Calls Try.prog 50 #[.agg c1.toArray, .int .i64 left] w (Ret (.int .i64 (szr left (cntSt s))) w) := by
  obtain ⟨v1, v2, v3, v4, rfl, h11, h12, h13, h14, h15⟩ := h1
  have S := Sep.start w
  by_cases e1 : (s.sent.length : Int) ≤ left
  case neg =>
    have s1 := Lib.hid (szr_no e1)
    have e : szr left (cntSt s) = -1 := szr_no (by unfold cntSt; omega)
    rw [e]
    clear e
    go_enter Try.func50, Try.ntmps50
    go_wp2_with (first
      | (go_at_call 108; (with_reducible refine (szPacketS_c _ _ s.sent left (h11.fr S.frame) hl0 hl1).mono ?_); rintro e w9 ⟨rfl, f9⟩; rw [s1.out]; replace S := S.fr f9; clear f9)
      | ((with_reducible refine gate_box rfl ?_); refine aBx S ?_; clear S; intro g9 w9 z9 S) | ((with_reducible refine gate_load rfl ?_); first | refine aLd S ?_ | refine aPt S ?_ | refine aL1 S ?_))
    go_ret
    exact ⟨rfl, S.frame⟩
  have s1 := Lib.hid (szr_yes e1)
  by_cases e2 : (s.live.length : Int) ≤ left - s.sent.length
  case neg =>
    have s2 := Lib.hid (szr_no e2)
    have e : szr left (cntSt s) = -1 := szr_no (by unfold cntSt; omega)
    rw [e]
    clear e
    go_enter Try.func50, Try.ntmps50
    go_wp2_with (first
      | (go_at_call 108; (with_reducible refine (szPacketS_c _ _ s.sent left (h11.fr S.frame) hl0 hl1).mono ?_); rintro e w9 ⟨rfl, f9⟩; rw [s1.out]; replace S := S.fr f9; clear f9)
      | (go_at_call 109; (with_reducible refine (szBoolS_c _ _ s.live (left - s.sent.length) (h12.fr S.frame) (by omega) (by omega)).mono ?_); rintro e w9 ⟨rfl, f9⟩; rw [s2.out]; replace S := S.fr f9; clear f9)
      | ((with_reducible refine gate_box rfl ?_); refine aBx S ?_; clear S; intro g9 w9 z9 S) | ((with_reducible refine gate_load rfl ?_); first | refine aLd S ?_ | refine aPt S ?_ | refine aL1 S ?_))
    go_ret
    exact ⟨rfl, S.frame⟩
  have s2 := Lib.hid (szr_yes e2)
  by_cases e3 : (s.back.length : Int) ≤ left - s.sent.length - s.live.length
  case neg =>
    have s3 := Lib.hid (szr_no e3)
    have e : szr left (cntSt s) = -1 := szr_no (by unfold cntSt; omega)
    rw [e]
    clear e
    go_enter Try.func50, Try.ntmps50
    go_wp2_with (first
      | (go_at_call 108; (with_reducible refine (szPacketS_c _ _ s.sent left (h11.fr S.frame) hl0 hl1).mono ?_); rintro e w9 ⟨rfl, f9⟩; rw [s1.out]; replace S := S.fr f9; clear f9)
      | (go_at_call 109; (with_reducible refine (szBoolS_c _ _ s.live (left - s.sent.length) (h12.fr S.frame) (by omega) (by omega)).mono ?_); rintro e w9 ⟨rfl, f9⟩; rw [s2.out]; replace S := S.fr f9; clear f9)
      | (go_at_call 109; (with_reducible refine (szBoolS_c _ _ s.back (left - s.sent.length - s.live.length) (h13.fr S.frame) (by omega) (by omega)).mono ?_); rintro e w9 ⟨rfl, f9⟩; rw [s3.out]; replace S := S.fr f9; clear f9)
      | ((with_reducible refine gate_box rfl ?_); refine aBx S ?_; clear S; intro g9 w9 z9 S) | ((with_reducible refine gate_load rfl ?_); first | refine aLd S ?_ | refine aPt S ?_ | refine aL1 S ?_))
    go_ret
    exact ⟨rfl, S.frame⟩
  have s3 := Lib.hid (szr_yes e3)
  obtain ⟨r, hr⟩ : ∃ r, szr (left - s.sent.length - s.live.length - s.back.length) s.got.length = r := ⟨_, rfl⟩
  have e : szr left (cntSt s) = r := by
    rw [← hr]
    unfold szr cntSt
    split <;> split <;> omega
  rw [e]
  have hneg : r < 0 → r = -1 := by
    intro h
    rw [← hr] at h ⊢
    unfold szr at *
    split at h
    · omega
    · rename_i h2; rw [if_neg h2]
  have s4 := Lib.hid hr
  have HN := Lib.hid hneg
  clear e hr hneg
  go_enter Try.func50, Try.ntmps50
  go_wp2_with (first
    | (go_at_call 108; (with_reducible refine (szPacketS_c _ _ s.sent left (h11.fr S.frame) hl0 hl1).mono ?_); rintro e w9 ⟨rfl, f9⟩; rw [s1.out]; replace S := S.fr f9; clear f9)
    | (go_at_call 109; (with_reducible refine (szBoolS_c _ _ s.live (left - s.sent.length) (h12.fr S.frame) (by omega) (by omega)).mono ?_); rintro e w9 ⟨rfl, f9⟩; rw [s2.out]; replace S := S.fr f9; clear f9)
    | (go_at_call 109; (with_reducible refine (szBoolS_c _ _ s.back (left - s.sent.length - s.live.length) (h13.fr S.frame) (by omega) (by omega)).mono ?_); rintro e w9 ⟨rfl, f9⟩; rw [s3.out]; replace S := S.fr f9; clear f9)
    | (go_at_call 86; (with_reducible refine (szIntS_c _ _ s.got (left - s.sent.length - s.live.length - s.back.length) (h14.fr S.frame) (by omega) (by omega)).mono ?_); rintro e w9 ⟨rfl, f9⟩; rw [s4.out]; replace S := S.fr f9; clear f9)
    | ((with_reducible refine gate_box rfl ?_); refine aBx S ?_; clear S; intro g9 w9 z9 S) | ((with_reducible refine gate_load rfl ?_); first | refine aLd S ?_ | refine aPt S ?_ | refine aL1 S ?_))
  all_goals go_ret
  · exact ⟨ret_int (HN.out (by assumption)).symm, S.frame⟩
  · exact ⟨rfl, S.frame⟩
set_option maxHeartbeats 1600000 in
theorem heldState_c (w : World) (s : St) (c1 : List Value) (q : Int) (h1 : tSt.rd w (markSt q s) c1) (hb : Small s) (hq0 : 0 ≤ q) (hq1 : q ≤ 10000000000000000) :
    Calls Try.prog 45 #[.agg c1.toArray, .int .i64 q] w (Ret (.int .i64 (q + cntMSt s)) w) := by
  obtain ⟨v1, v2, v3, v4, rfl, h11, h12, h13, h14, h15⟩ := h1
  obtain ⟨b1, b2, b3, b4⟩ := hb
  have S := Sep.start w
  go_enter Try.func45, Try.ntmps45
  go_wp2_with (first
    | (go_at_call 100; (with_reducible refine (heldPacketS_c _ _ s.sent.length _ (h11.fr S.frame) b1 (by omega) (by omega)).mono ?_); rintro e w9 ⟨rfl, f9⟩; replace S := S.fr f9; clear f9)
    | (go_at_call 101; (with_reducible refine (heldBoolS_c _ _ s.live.length _ (h12.fr S.frame) b2 (by omega) (by omega)).mono ?_); rintro e w9 ⟨rfl, f9⟩; replace S := S.fr f9; clear f9)
    | (go_at_call 101; (with_reducible refine (heldBoolS_c _ _ s.back.length _ (h13.fr S.frame) b3 (by omega) (by omega)).mono ?_); rintro e w9 ⟨rfl, f9⟩; replace S := S.fr f9; clear f9)
    | (go_at_call 78; (with_reducible refine (heldIntS_c _ _ s.got.length _ (h14.fr S.frame) b4 (by omega) (by omega)).mono ?_); rintro e w9 ⟨rfl, f9⟩; replace S := S.fr f9; clear f9)
    | ((with_reducible refine gate_box rfl ?_); refine aBx S ?_; clear S; intro g9 w9 z9 S) | ((with_reducible refine gate_load rfl ?_); first | refine aLd S ?_ | refine aPt S ?_ | refine aL1 S ?_))
  go_ret
  exact ⟨ret_int (by unfold cntMSt; omega), S.frame⟩
set_option maxHeartbeats 1600000 in
theorem toState_c (w : World) (s : St) (c1 : List Value) (h1 : tSt.rd w s c1) (hb : cntSt s ≤ 1048576) : Calls Try.prog 52 #[.agg c1.toArray] w (RetOwn tSt s w) := by
  obtain ⟨v1, v2, v3, v4, rfl, h11, h12, h13, h14, h15⟩ := h1
  have b1 : s.sent.length ≤ 1048576 ∧ s.live.length ≤ 1048576 ∧ s.back.length ≤ 1048576 ∧ s.got.length ≤ 1048576 := by unfold cntSt at hb; omega
  obtain ⟨b1, b2, b3, b4⟩ := b1
  have S := Sep.start w
  go_enter Try.func52, Try.ntmps52
  go_wp2_with (first
    | (go_at_call 111; (with_reducible refine (toPacketS_c _ _ s.sent (h11.fr S.frame) b1).mono ?_); rintro e w9 ⟨v9, F9, rfl, h9, n9, b9, f9⟩; obtain ⟨A9, c9, rfl⟩ := h9.row.val; replace S := S.new (aRow tPk 88 _ (.slice A9 _ c9) F9) h9 n9 b9 f9; clear h9 n9 b9 f9)
    | (go_at_call 112; (with_reducible refine (toBoolS_c _ _ s.live (h12.fr S.frame) b2).mono ?_); rintro e w9 ⟨v9, F9, rfl, h9, n9, b9, f9⟩; obtain ⟨A9, c9, rfl⟩ := h9.row.val; replace S := S.new (aRow tBool 4 _ (.slice A9 _ c9) F9) h9 n9 b9 f9; clear h9 n9 b9 f9)
    | (go_at_call 112; (with_reducible refine (toBoolS_c _ _ s.back (h13.fr S.frame) b3).mono ?_); rintro e w9 ⟨v9, F9, rfl, h9, n9, b9, f9⟩; obtain ⟨A9, c9, rfl⟩ := h9.row.val; replace S := S.new (aRow tBool 4 _ (.slice A9 _ c9) F9) h9 n9 b9 f9; clear h9 n9 b9 f9)
    | (go_at_call 91; (with_reducible refine (toIntS_c _ _ s.got (h14.fr S.frame) b4).mono ?_); rintro e w9 ⟨v9, F9, rfl, h9, n9, b9, f9⟩; obtain ⟨A9, c9, rfl⟩ := h9.row.val; replace S := S.new (aRow tInt 3 _ (.slice A9 _ c9) F9) h9 n9 b9 f9; clear h9 n9 b9 f9)
    | ((with_reducible refine gate_box rfl ?_); refine aBx S ?_; clear S; intro g9 w9 z9 S) | ((with_reducible refine gate_alloc rfl ?_); refine aAl S ?_; clear S; intro g9 w9 z9 S) | ((with_reducible refine gate_load rfl ?_); first | refine aLd S ?_ | refine aPt S ?_ | refine aL1 S ?_) | ((with_reducible refine gate_st rfl ?_); (first | refine aS1 S ?_ | refine aSt S ?_ | refine aSp S ?_); clear S; intro w9 S))
  have S' := Sep.shutSt (x := s.way) (y := s.vsn) (z := s.want) (Sep.only4 (a1 := aRow tPk _ s.sent _ _) (a2 := aRow tBool _ s.live _ _) (a3 := aRow tBool _ s.back _ _) (a4 := aRow tInt _ s.got _ _) S delA delA delA delA) h15
  (refine Sep.ret1 S rfl rfl memA Try.underlying30 rfl ts30 rfl ?_)
  exact S'.retOwn List.mem_cons_self
set_option maxHeartbeats 1600000 in
theorem markState_c (w : World) (s : St) (cs : List Value) (F : List Nat) (q : Int) (h1 : tSt.own w s cs F) (hn : F.Nodup) (hq0 : 0 ≤ q) (hq1 : q ≤ 10000000000000000) :
    Calls Try.prog 44 #[.agg cs.toArray, .int .i64 q] w (RetMk tSt (q + cntMSt s) (markSt q s) cs F w) := by
  have S := Sep.startOwn h1 hn
  obtain ⟨A1, c1, A2, c2, A3, c3, A4, c4, F1, F2, F3, F4, rfl, rfl, hI, S⟩ := S.openSt
  have l1 := (S.row (d := tPk) (xs := s.sent) memA).le
  have l2 := (S.row (d := tBool) (xs := s.live) (F := F2) memA).le
  have l3 := (S.row (d := tBool) (xs := s.back) (F := F3) memA).le
  have l4 := (S.row (d := tInt) (xs := s.got) memA).le
  clear h1
  go_enter Try.func44, Try.ntmps44
  go_wp2_with (first
    | (go_at_call 98; (with_reducible refine (markPacketS_c _ (.slice A1 s.sent.length c1) s.sent F1 _ (S.row memA) (by omega) (by omega)).mono ?_); rintro e w9 ⟨rfl, h9, c9⟩; replace S := S.putRow putA h9 c9; clear h9 c9)
    | (go_at_call 99; (with_reducible refine (markBoolS_c _ (.slice A2 s.live.length c2) s.live F2 _ (S.row memA) (by omega) (by omega)).mono ?_); rintro e w9 ⟨rfl, h9, c9⟩; replace S := S.putRow putA h9 c9; clear h9 c9)
    | (go_at_call 99; (with_reducible refine (markBoolS_c _ (.slice A3 s.back.length c3) s.back F3 _ (S.row memA) (by omega) (by omega)).mono ?_); rintro e w9 ⟨rfl, h9, c9⟩; replace S := S.putRow putA h9 c9; clear h9 c9)
    | (go_at_call 75; (with_reducible refine (markIntS_c _ (.slice A4 s.got.length c4) s.got F4 _ (S.row memA) (by omega) (by omega)).mono ?_); rintro e w9 ⟨rfl, h9, c9⟩; replace S := S.putRow putA h9 c9; clear h9 c9)
    | ((with_reducible refine gate_box rfl ?_); refine aBx S ?_; clear S; intro g9 w9 z9 S) | ((with_reducible refine gate_load rfl ?_); first | refine aLd S ?_ | refine aPt S ?_ | refine aL1 S ?_))
  have S' := Sep.shutSt (x := s.way) (y := s.vsn) (z := s.want) (Sep.only4 (a1 := aRow tPk _ _ _ F1) (a2 := aRow tBool _ _ _ F2) (a3 := aRow tBool _ _ _ F3) (a4 := aRow tInt _ _ _ F4) S delA delA delA delA) hI
  go_ret
  exact ⟨ret_int (by unfold cntMSt; omega), S'.own List.mem_cons_self, S'.chg⟩
theorem markState_b (w : World) (s : St) (cs : List Value) (F : List Nat) (q : Int) (h : tSt.own w s cs F ∧ F.Nodup) (hq0 : 0 ≤ q) (hq1 : q ≤ 10000000000000000) :
    Calls Try.prog 44 #[.agg cs.toArray, .int .i64 q] w (RetMk tSt (q + cntMSt s) (markSt q s) cs F w) := markState_c w s cs F q h.1 h.2 hq0 hq1
end Go.Proofs.Ytapdcgjccckjeaa
