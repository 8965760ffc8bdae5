/- Chains as data, and what the laws' helpers for them come to. -/
import Derived.Test.YtapdcgjccckjeaaStS2
import Derived.Test.YtapdcgjccckjeaaFresh
import Derived.Test.YtapdcgjccckjeaaBankSep
namespace Go.Proofs.Ytapdcgjccckjeaa
set_option maxRecDepth 100000
set_option linter.unusedVariables false
set_option linter.unusedSimpArgs false
open Go.RowKit
structure Ch where
  id : Int
  bank : Bk
  st : St
  past : List St
  knows : List Int
def tCh : Ty Ch where
  sz := 13
  rd := fun w c cs => ∃ b1 b2 s1 s2 s3 s4 v1 v2, cs = [.int .i64 c.id, b1, b2, .int .i64 c.bank.locked, .int .i64 c.st.way, .int .i64 c.st.vsn, .int .i64 c.st.want, s1, s2, s3, s4, v1, v2] ∧ tBk.rd w c.bank [b1, b2, .int .i64 c.bank.locked] ∧ tSt.rd w c.st [.int .i64 c.st.way, .int .i64 c.st.vsn, .int .i64 c.st.want, s1, s2, s3, s4] ∧ tSt.row w v1 c.past ∧ tInt.row w v2 c.knows ∧ I64 c.id
  own := fun w c cs F => ∃ b1 b2 s1 s2 s3 s4 v1 v2 F1 F2 F3 F4, cs = [.int .i64 c.id, b1, b2, .int .i64 c.bank.locked, .int .i64 c.st.way, .int .i64 c.st.vsn, .int .i64 c.st.want, s1, s2, s3, s4, v1, v2] ∧ F = F1 ++ (F2 ++ (F3 ++ F4)) ∧ tBk.own w c.bank [b1, b2, .int .i64 c.bank.locked] F1 ∧ tSt.own w c.st [.int .i64 c.st.way, .int .i64 c.st.vsn, .int .i64 c.st.want, s1, s2, s3, s4] F2 ∧ tSt.orow 30 w v1 c.past F3 ∧ tInt.orow 3 w v2 c.knows F4 ∧ I64 c.id
  len := by rintro w x cs ⟨b1, b2, s1, s2, s3, s4, v1, v2, rfl, _⟩; rfl
  fr := by rintro w w' x cs f ⟨b1, b2, s1, s2, s3, s4, v1, v2, rfl, h1, h2, h3, h4, h5⟩; exact ⟨b1, b2, s1, s2, s3, s4, v1, v2, rfl, tBk.fr f h1, tSt.fr f h2, h3.fr f, h4.fr f, h5⟩
  own_rd := by rintro w x cs F ⟨b1, b2, s1, s2, s3, s4, v1, v2, F1, F2, F3, F4, rfl, rfl, h1, h2, h3, h4, h5⟩; exact ⟨b1, b2, s1, s2, s3, s4, v1, v2, rfl, tBk.own_rd h1, tSt.own_rd h2, h3.row, h4.row, h5⟩
  own_lt := by
    rintro w x cs F ⟨b1, b2, s1, s2, s3, s4, v1, v2, F1, F2, F3, F4, rfl, rfl, h1, h2, h3, h4, h5⟩ g hg
    rcases List.mem_append.1 hg with hg | hg
    · exact tBk.own_lt h1 g hg
    rcases List.mem_append.1 hg with hg | hg
    · exact tSt.own_lt h2 g hg
    rcases List.mem_append.1 hg with hg | hg
    · exact h3.lt g hg
    · exact h4.lt g hg
  keep := by
    rintro w w' x cs F ⟨b1, b2, s1, s2, s3, s4, v1, v2, F1, F2, F3, F4, rfl, rfl, h1, h2, h3, h4, h5⟩ hk
    exact ⟨b1, b2, s1, s2, s3, s4, v1, v2, F1, F2, F3, F4, rfl, rfl, tBk.keep h1 (fun g hg => hk g (List.mem_append_left _ hg)), tSt.keep h2 (fun g hg => hk g (List.mem_append_right _ (List.mem_append_left _ hg))), h3.keep (fun g hg => hk g (List.mem_append_right _ (List.mem_append_right _ (List.mem_append_left _ hg)))), h4.keep (fun g hg => hk g (List.mem_append_right _ (List.mem_append_right _ (List.mem_append_right _ hg)))), h5⟩
  one := by
    rintro w x cs F ⟨b1, b2, s1, s2, s3, s4, v1, v2, F1, F2, F3, F4, rfl, rfl, h1, h2, h3, h4, h5⟩ u hu
    have o1 := tBk.one h1
    have o2 := tSt.one h2
    simp only [List.mem_cons, List.not_mem_nil, or_false] at hu
    rcases hu with rfl | rfl | rfl | rfl | rfl | rfl | rfl | rfl | rfl | rfl | rfl | rfl | rfl
    · rfl
    · exact o1 _ (by simp)
    · exact o1 _ (by simp)
    · rfl
    · rfl
    · rfl
    · rfl
    · exact o2 _ (by simp)
    · exact o2 _ (by simp)
    · exact o2 _ (by simp)
    · exact o2 _ (by simp)
    · exact h3.one
    · exact h4.one
def cntCh (c : Ch) : Nat := cntBk c.bank + (cntSt c.st + ((c.past.length + cntStS c.past) + c.knows.length))
def cntMCh (c : Ch) : Nat := cntBk c.bank + (cntMSt c.st + (cntMStS c.past + c.knows.length))
def markCh (q : Int) (c : Ch) : Ch := { c with bank := markBk q c.bank, st := markSt (q + cntBk c.bank) c.st, past := marksS (q + cntBk c.bank + cntMSt c.st) c.past, knows := marksI (q + cntBk c.bank + cntMSt c.st + cntMStS c.past) c.knows.length }
def SmallCh (c : Ch) : Prop := (c.bank.own.length ≤ 2097152 ∧ c.bank.notes.length ≤ 2097152) ∧ Small c.st ∧ (∀ k (h : k < c.past.length), Small c.past[k]) ∧ cntMStS c.past ≤ 1000000000 ∧ c.knows.length ≤ 2097152
theorem cntMCh_le {c : Ch} (h : cntCh c ≤ 1048576) : cntMCh c ≤ 7 * 1048576 := by
  have h1 := cntMStS_bd c.past
  have h2 := cntMSt_le (s := c.st)
  unfold cntCh at h
  unfold cntMCh
  omega
section
variable {F0 : List Nat} {w0 w : World} {L : List Asrt} {c : Ch} {cs : List Value} {F : List Nat}
theorem Sep.openCh (S : Sep F0 w0 (aOwn tCh c cs F :: L) w) : ∃ b1 b2 s1 s2 s3 s4 A1 n1 A2 n2 F1 F2 F3 F4, cs = [.int .i64 c.id, b1, b2, .int .i64 c.bank.locked, .int .i64 c.st.way, .int .i64 c.st.vsn, .int .i64 c.st.want, s1, s2, s3, s4, .slice A1 c.past.length n1, .slice A2 c.knows.length n2] ∧ F = F1 ++ (F2 ++ (F3 ++ F4)) ∧ I64 c.id ∧
    Sep F0 w0 (aOwn tBk c.bank [b1, b2, .int .i64 c.bank.locked] F1 :: aOwn tSt c.st [.int .i64 c.st.way, .int .i64 c.st.vsn, .int .i64 c.st.want, s1, s2, s3, s4] F2 :: aRow tSt 30 c.past (.slice A1 c.past.length n1) F3 :: aRow tInt 3 c.knows (.slice A2 c.knows.length n2) F4 :: L) w := by
  have h := S.own (d := tCh) (x := c) (cs := cs) (F := F) (by simp)
  obtain ⟨b1, b2, s1, s2, s3, s4, v1, v2, F1, F2, F3, F4, rfl, rfl, h1, h2, h3, h4, h5⟩ := h
  obtain ⟨A1, n1, rfl⟩ := h3.row.val
  obtain ⟨A2, n2, rfl⟩ := h4.row.val
  refine ⟨b1, b2, s1, s2, s3, s4, A1, n1, A2, n2, F1, F2, F3, F4, rfl, rfl, h5, S.conv [aOwn tBk c.bank _ F1, aOwn tSt c.st _ F2, aRow tSt 30 c.past _ F3, aRow tInt 3 c.knows _ F4] (by simp [fps, aRow, aOwn]) ?_⟩
  intro x hx
  simp only [List.mem_cons, List.not_mem_nil, or_false] at hx
  rcases hx with rfl | rfl | rfl | rfl
  · exact h1
  · exact h2
  · exact h3
  · exact h4
theorem Sep.shutCh {i l x y z : Int} {xs ys : List Int} {ps : List Pk} {bs ds : List Bool} {gs : List Int} {ss : List St} {ks : List Int} {b1 b2 s1 s2 s3 s4 v1 v2 : Value} {F1 F2 F3 F4 : List Nat} (S : Sep F0 w0 (aOwn tBk ⟨xs, ys, l⟩ [b1, b2, .int .i64 l] F1 :: aOwn tSt ⟨x, y, z, ps, bs, ds, gs⟩ [.int .i64 x, .int .i64 y, .int .i64 z, s1, s2, s3, s4] F2 :: aRow tSt 30 ss v1 F3 :: aRow tInt 3 ks v2 F4 :: L) w) (hI : I64 i) :
    Sep F0 w0 (aOwn tCh ⟨i, ⟨xs, ys, l⟩, ⟨x, y, z, ps, bs, ds, gs⟩, ss, ks⟩ [.int .i64 i, b1, b2, .int .i64 l, .int .i64 x, .int .i64 y, .int .i64 z, s1, s2, s3, s4, v1, v2] (F1 ++ (F2 ++ (F3 ++ F4))) :: L) w := by
  refine Sep.join [aOwn tBk ⟨xs, ys, l⟩ [b1, b2, .int .i64 l] F1, aOwn tSt ⟨x, y, z, ps, bs, ds, gs⟩ [.int .i64 x, .int .i64 y, .int .i64 z, s1, s2, s3, s4] F2, aRow tSt 30 ss v1 F3, aRow tInt 3 ks v2 F4] S _ (by simp [fps, aRow, aOwn]) fun h => ?_
  exact ⟨b1, b2, s1, s2, s3, s4, v1, v2, F1, F2, F3, F4, rfl, rfl, h (aOwn tBk ⟨xs, ys, l⟩ [b1, b2, .int .i64 l] F1) (by simp), h (aOwn tSt ⟨x, y, z, ps, bs, ds, gs⟩ [.int .i64 x, .int .i64 y, .int .i64 z, s1, s2, s3, s4] F2) (by simp), h (aRow tSt 30 ss v1 F3) (by simp), h (aRow tInt 3 ks v2 F4) (by simp), hI⟩
/-- The same, by its parts' names. -/
theorem Sep.shutCh' {b : Bk} {s : St} {i : Int} {ss : List St} {ks : List Int} {b1 b2 s1 s2 s3 s4 v1 v2 : Value} {F1 F2 F3 F4 : List Nat} (S : Sep F0 w0 (aOwn tBk b [b1, b2, .int .i64 b.locked] F1 :: aOwn tSt s [.int .i64 s.way, .int .i64 s.vsn, .int .i64 s.want, s1, s2, s3, s4] F2 :: aRow tSt 30 ss v1 F3 :: aRow tInt 3 ks v2 F4 :: L) w) (hI : I64 i) :
    Sep F0 w0 (aOwn tCh ⟨i, b, s, ss, ks⟩ [.int .i64 i, b1, b2, .int .i64 b.locked, .int .i64 s.way, .int .i64 s.vsn, .int .i64 s.want, s1, s2, s3, s4, v1, v2] (F1 ++ (F2 ++ (F3 ++ F4))) :: L) w := S.shutCh hI
end
/-- A chain put together out of its eight rows, wherever they stand. -/
theorem Sep.allCh {F0 : List Nat} {w0 w : World} {L L1 L2 L3 L4 L5 L6 L7 L8 : List Asrt} {x1 x2 v1 v2 v3 v4 u1 u2 : Value} {Y1 Y2 Z1 Z2 Z3 Z4 P1 K1 : List Nat} (c : Ch) (S : Sep F0 w0 L w) (I9 : I64 c.bank.locked) (J9 : I64 c.st.way ∧ I64 c.st.vsn ∧ I64 c.st.want) (h15 : I64 c.id) (p1 : Del L (aRow tInt 3 c.knows u2 K1) L1 := by (repeat (first | with_reducible exact Del.head _ _ | with_reducible apply Del.tail)) <;> fail) (p2 : Del L1 (aRow tSt 30 c.past u1 P1) L2 := by (repeat (first | with_reducible exact Del.head _ _ | with_reducible apply Del.tail)) <;> fail) (p3 : Del L2 (aRow tInt 3 c.st.got v4 Z4) L3 := by (repeat (first | with_reducible exact Del.head _ _ | with_reducible apply Del.tail)) <;> fail) (p4 : Del L3 (aRow tBool 4 c.st.back v3 Z3) L4 := by (repeat (first | with_reducible exact Del.head _ _ | with_reducible apply Del.tail)) <;> fail) (p5 : Del L4 (aRow tBool 4 c.st.live v2 Z2) L5 := by (repeat (first | with_reducible exact Del.head _ _ | with_reducible apply Del.tail)) <;> fail) (p6 : Del L5 (aRow tPk 88 c.st.sent v1 Z1) L6 := by (repeat (first | with_reducible exact Del.head _ _ | with_reducible apply Del.tail)) <;> fail) (p7 : Del L6 (aRow tInt 3 c.bank.notes x2 Y2) L7 := by (repeat (first | with_reducible exact Del.head _ _ | with_reducible apply Del.tail)) <;> fail) (p8 : Del L7 (aRow tInt 3 c.bank.own x1 Y1) L8 := by (repeat (first | with_reducible exact Del.head _ _ | with_reducible apply Del.tail)) <;> fail) :
    Sep F0 w0 (aOwn tCh c [.int .i64 c.id, x1, x2, .int .i64 c.bank.locked, .int .i64 c.st.way, .int .i64 c.st.vsn, .int .i64 c.st.want, v1, v2, v3, v4, u1, u2] ((Y1 ++ Y2) ++ ((Z1 ++ (Z2 ++ (Z3 ++ Z4))) ++ (P1 ++ K1))) :: L8) w := by
  have S1 := (((((((S.pull p1).pull (.tail _ p2)).pull (.tail _ (.tail _ p3))).pull (.tail _ (.tail _ (.tail _ p4)))).pull (.tail _ (.tail _ (.tail _ (.tail _ p5))))).pull (.tail _ (.tail _ (.tail _ (.tail _ (.tail _ p6)))))).pull (.tail _ (.tail _ (.tail _ (.tail _ (.tail _ (.tail _ p7))))))).pull (.tail _ (.tail _ (.tail _ (.tail _ (.tail _ (.tail _ (.tail _ p8)))))))
  refine Sep.join [aRow tInt 3 c.bank.own x1 Y1, aRow tInt 3 c.bank.notes x2 Y2, aRow tPk 88 c.st.sent v1 Z1, aRow tBool 4 c.st.live v2 Z2, aRow tBool 4 c.st.back v3 Z3, aRow tInt 3 c.st.got v4 Z4, aRow tSt 30 c.past u1 P1, aRow tInt 3 c.knows u2 K1] S1 _ (by simp [fps, aRow, aOwn]) fun h => ?_
  exact ⟨x1, x2, v1, v2, v3, v4, u1, u2, Y1 ++ Y2, Z1 ++ (Z2 ++ (Z3 ++ Z4)), P1, K1, rfl, rfl, ⟨x1, x2, Y1, Y2, rfl, rfl, h (aRow tInt 3 c.bank.own x1 Y1) (by simp), h (aRow tInt 3 c.bank.notes x2 Y2) (by simp), I9⟩, ⟨v1, v2, v3, v4, Z1, Z2, Z3, Z4, rfl, rfl, h (aRow tPk 88 c.st.sent v1 Z1) (by simp), h (aRow tBool 4 c.st.live v2 Z2) (by simp), h (aRow tBool 4 c.st.back v3 Z3) (by simp), h (aRow tInt 3 c.st.got v4 Z4) (by simp), J9⟩, h (aRow tSt 30 c.past u1 P1) (by simp), h (aRow tInt 3 c.knows u2 K1) (by simp), h15⟩
set_option maxHeartbeats 3200000 in
theorem eqChain_c (w : World) (c : Ch) (c1 c2 : List Value) (h1 : tCh.rd w c c1) (h2 : tCh.rd w c c2) : Calls Try.prog 24 #[.agg c1.toArray, .agg c2.toArray] w (Ret (.bool true) w) := by
  obtain ⟨b1, b2, s1, s2, s3, s4, v1, v2, rfl, h11, h12, h13, h14, _⟩ := h1
  obtain ⟨d1, d2, t1, t2, t3, t4, u1, u2, rfl, h21, h22, h23, h24, _⟩ := h2
  have S := Sep.start w
  go_enter Try.func24, Try.ntmps24
  go_wp2_with (first
    | (go_at_call 70; (with_reducible refine (eqBank_c _ c.bank _ _ (tBk.fr S.frame h11) (tBk.fr S.frame h21)).mono ?_); rintro e w9 ⟨rfl, f9⟩; replace S := S.fr f9; clear f9)
    | (go_at_call 43; (with_reducible refine (eqState_c _ c.st _ _ (tSt.fr S.frame h12) (tSt.fr S.frame h22)).mono ?_); rintro e w9 ⟨rfl, f9⟩; replace S := S.fr f9; clear f9)
    | (go_at_call 71; (with_reducible refine (eqStateS_c _ _ _ c.past (h13.fr S.frame) (h23.fr S.frame)).mono ?_); rintro e w9 ⟨rfl, f9⟩; replace S := S.fr f9; clear f9)
    | (go_at_call 72; (with_reducible refine (eqIntS_c _ _ _ c.knows (h14.fr S.frame) (h24.fr S.frame)).mono ?_); rintro e w9 ⟨rfl, f9⟩; replace S := S.fr f9; clear f9)
    | ((with_reducible refine gate_box rfl ?_); refine aBx S ?_; clear S; intro g9 w9 z9 S) | ((with_reducible refine gate_load rfl ?_); first | refine aLd S ?_ | refine aPt S ?_ | refine aL1 S ?_))
  go_ret
  exact ⟨rfl, S.frame⟩
set_option maxHeartbeats 3200000 in
theorem szChain_c (w : World) (c : Ch) (c1 : List Value) (left : Int) (h1 : tCh.rd w c c1) (hl0 : 0 ≤ left) (hl1 : left ≤ 1048576) :
    Calls Try.prog 32 #[.agg c1.toArray, .int .i64 left] w (Ret (.int .i64 (szr left (cntCh c))) w) := by
  obtain ⟨b1, b2, s1, s2, s3, s4, v1, v2, rfl, h11, h12, h13, h14, _⟩ := h1
  have S := Sep.start w
  obtain ⟨n1, hn1⟩ : ∃ n, cntBk c.bank = n := ⟨_, rfl⟩
  obtain ⟨n2, hn2⟩ : ∃ n, cntSt c.st = n := ⟨_, rfl⟩
  obtain ⟨n3, hn3⟩ : ∃ n, c.past.length + cntStS c.past = n := ⟨_, rfl⟩
  have hc : cntCh c = n1 + (n2 + (n3 + c.knows.length)) := by unfold cntCh; omega
  have N1 := Lib.hid hn1
  have N2 := Lib.hid hn2
  have N3 := Lib.hid hn3
  have HC := Lib.hid hc
  clear hn1 hn2 hn3 hc
  by_cases e1 : (n1 : Int) ≤ left
  case neg =>
    have E := Lib.hid (show szr left (cntCh c) = -1 from szr_no (by rw [HC.out]; omega))
    have s1 := Lib.hid (szr_no e1)
    go_enter Try.func32, Try.ntmps32
    go_wp2_with (first
      | (go_at_call 84; (with_reducible refine (szBank_c _ c.bank _ left (tBk.fr S.frame h11) hl0 hl1).mono ?_); rintro e w9 ⟨rfl, f9⟩; rw [N1.out, s1.out]; replace S := S.fr f9; clear f9)
      | ((with_reducible refine gate_box rfl ?_); refine aBx S ?_; clear S; intro g9 w9 z9 S) | ((with_reducible refine gate_load rfl ?_); first | refine aLd S ?_ | refine aPt S ?_ | refine aL1 S ?_))
    go_ret
    exact ⟨ret_int E.out.symm, S.frame⟩
  have s1 := Lib.hid (szr_yes e1)
  by_cases e2 : (n2 : Int) ≤ left - n1
  case neg =>
    have E := Lib.hid (show szr left (cntCh c) = -1 from szr_no (by rw [HC.out]; omega))
    have s2 := Lib.hid (szr_no e2)
    go_enter Try.func32, Try.ntmps32
    go_wp2_with (first
      | (go_at_call 84; (with_reducible refine (szBank_c _ c.bank _ left (tBk.fr S.frame h11) hl0 hl1).mono ?_); rintro e w9 ⟨rfl, f9⟩; rw [N1.out, s1.out]; replace S := S.fr f9; clear f9)
      | (go_at_call 50; (with_reducible refine (szState_c _ c.st _ (left - n1) (tSt.fr S.frame h12) (by omega) (by omega)).mono ?_); rintro e w9 ⟨rfl, f9⟩; rw [N2.out, s2.out]; replace S := S.fr f9; clear f9)
      | ((with_reducible refine gate_box rfl ?_); refine aBx S ?_; clear S; intro g9 w9 z9 S) | ((with_reducible refine gate_load rfl ?_); first | refine aLd S ?_ | refine aPt S ?_ | refine aL1 S ?_))
    go_ret
    exact ⟨ret_int E.out.symm, S.frame⟩
  have s2 := Lib.hid (szr_yes e2)
  by_cases e3 : (n3 : Int) ≤ left - n1 - n2
  case neg =>
    have E := Lib.hid (show szr left (cntCh c) = -1 from szr_no (by rw [HC.out]; omega))
    have s3 := Lib.hid (szr_no e3)
    go_enter Try.func32, Try.ntmps32
    go_wp2_with (first
      | (go_at_call 84; (with_reducible refine (szBank_c _ c.bank _ left (tBk.fr S.frame h11) hl0 hl1).mono ?_); rintro e w9 ⟨rfl, f9⟩; rw [N1.out, s1.out]; replace S := S.fr f9; clear f9)
      | (go_at_call 50; (with_reducible refine (szState_c _ c.st _ (left - n1) (tSt.fr S.frame h12) (by omega) (by omega)).mono ?_); rintro e w9 ⟨rfl, f9⟩; rw [N2.out, s2.out]; replace S := S.fr f9; clear f9)
      | (go_at_call 85; (with_reducible refine (szStateS_c _ _ c.past (left - n1 - n2) (h13.fr S.frame) (by omega) (by omega)).mono ?_); rintro e w9 ⟨rfl, f9⟩; rw [N3.out, s3.out]; replace S := S.fr f9; clear f9)
      | ((with_reducible refine gate_box rfl ?_); refine aBx S ?_; clear S; intro g9 w9 z9 S) | ((with_reducible refine gate_load rfl ?_); first | refine aLd S ?_ | refine aPt S ?_ | refine aL1 S ?_))
    go_ret
    exact ⟨ret_int E.out.symm, S.frame⟩
  have s3 := Lib.hid (szr_yes e3)
  obtain ⟨r, hr⟩ : ∃ r, szr (left - n1 - n2 - n3) c.knows.length = r := ⟨_, rfl⟩
  have E := Lib.hid (show szr left (cntCh c) = r by
    rw [← hr, HC.out]
    unfold szr
    split <;> split <;> omega)
  have hneg : r < 0 → r = -1 := by
    intro h
    rw [← hr] at h ⊢
    unfold szr at *
    split at h
    · omega
    · rename_i h2; rw [if_neg h2]
  have s4 := Lib.hid hr
  have HN := Lib.hid hneg
  clear hr hneg
  go_enter Try.func32, Try.ntmps32
  go_wp2_with (first
    | (go_at_call 84; (with_reducible refine (szBank_c _ c.bank _ left (tBk.fr S.frame h11) hl0 hl1).mono ?_); rintro e w9 ⟨rfl, f9⟩; rw [N1.out, s1.out]; replace S := S.fr f9; clear f9)
    | (go_at_call 50; (with_reducible refine (szState_c _ c.st _ (left - n1) (tSt.fr S.frame h12) (by omega) (by omega)).mono ?_); rintro e w9 ⟨rfl, f9⟩; rw [N2.out, s2.out]; replace S := S.fr f9; clear f9)
    | (go_at_call 85; (with_reducible refine (szStateS_c _ _ c.past (left - n1 - n2) (h13.fr S.frame) (by omega) (by omega)).mono ?_); rintro e w9 ⟨rfl, f9⟩; rw [N3.out, s3.out]; replace S := S.fr f9; clear f9)
    | (go_at_call 86; (with_reducible refine (szIntS_c _ _ c.knows (left - n1 - n2 - n3) (h14.fr S.frame) (by omega) (by omega)).mono ?_); rintro e w9 ⟨rfl, f9⟩; rw [s4.out]; replace S := S.fr f9; clear f9)
    | ((with_reducible refine gate_box rfl ?_); refine aBx S ?_; clear S; intro g9 w9 z9 S) | ((with_reducible refine gate_load rfl ?_); first | refine aLd S ?_ | refine aPt S ?_ | refine aL1 S ?_))
  all_goals go_ret
  · exact ⟨ret_int (by rw [E.out]; exact (HN.out (by assumption)).symm), S.frame⟩
  · exact ⟨ret_int E.out.symm, S.frame⟩
set_option maxHeartbeats 3200000 in
theorem toChain_c (w : World) (c : Ch) (c1 : List Value) (h1 : tCh.rd w c c1) (hb : cntCh c ≤ 1048576) : Calls Try.prog 34 #[.agg c1.toArray] w (RetOwn tCh c w) := by
  obtain ⟨b1, b2, s1, s2, s3, s4, v1, v2, rfl, h11, h12, h13, h14, h15⟩ := h1
  have hc : (c.bank.own.length ≤ 1048576 ∧ c.bank.notes.length ≤ 1048576) ∧ cntSt c.st ≤ 1048576 ∧ c.past.length ≤ 1048576 ∧ cntStS c.past ≤ 1048576 ∧ c.knows.length ≤ 1048576 := by unfold cntCh cntBk at hb; omega
  obtain ⟨hb1, hb2, hb3, hb4, hb5⟩ := hc
  have S := Sep.start w
  go_enter Try.func34, Try.ntmps34
  go_wp2_with (first
    | (go_at_call 89; (with_reducible refine (toBank_c _ c.bank _ (tBk.fr S.frame h11) hb1).mono ?_); rintro e w9 ⟨cs9, F9, rfl, h9, n9, b9, f9⟩; replace S := S.new (aOwn tBk _ cs9 F9) h9 n9 b9 f9; clear h9 n9 b9 f9; obtain ⟨x1, x2, Y1, Y2, rfl, rfl, I9, S⟩ := S.openBk)
    | (go_at_call 52; (with_reducible refine (toState_c _ c.st _ (tSt.fr S.frame h12) hb2).mono ?_); rintro e w9 ⟨cs9, F9, rfl, h9, n9, b9, f9⟩; replace S := S.new (aOwn tSt _ cs9 F9) h9 n9 b9 f9; clear h9 n9 b9 f9; obtain ⟨A1, n1, A2, n2, A3, n3, A4, n4, Z1, Z2, Z3, Z4, rfl, rfl, J9, S⟩ := S.openSt)
    | (go_at_call 90; (with_reducible refine (toStateS_c _ _ c.past (h13.fr S.frame) hb3 hb4).mono ?_); rintro e w9 ⟨v9, F9, rfl, h9, n9, b9, f9⟩; obtain ⟨A9, c9, rfl⟩ := h9.row.val; replace S := S.new (aRow tSt 30 _ (.slice A9 _ c9) F9) h9 n9 b9 f9; clear h9 n9 b9 f9)
    | (go_at_call 91; (with_reducible refine (toIntS_c _ _ c.knows (h14.fr S.frame) hb5).mono ?_); rintro e w9 ⟨v9, F9, rfl, h9, n9, b9, f9⟩; obtain ⟨A9, c9, rfl⟩ := h9.row.val; replace S := S.new (aRow tInt 3 _ (.slice A9 _ c9) F9) h9 n9 b9 f9; clear h9 n9 b9 f9)
    | ((with_reducible refine gate_box rfl ?_); refine aBx S ?_; clear S; intro g9 w9 z9 S) | ((with_reducible refine gate_alloc rfl ?_); refine aAl S ?_; clear S; intro g9 w9 z9 S) | ((with_reducible refine gate_load rfl ?_); first | refine aLd S ?_ | refine aPt S ?_ | refine aL1 S ?_) | ((with_reducible refine gate_st rfl ?_); (first | refine aS1 S ?_ | refine aSt S ?_ | refine aSp S ?_); clear S; intro w9 S))
  have S' := S.allCh c I9 J9 h15
  (refine Sep.ret1 S rfl rfl memA Try.underlying33 rfl ts33 rfl ?_)
  exact S'.retOwn List.mem_cons_self
set_option maxHeartbeats 3200000 in
theorem markChain_c (w : World) (c : Ch) (cs : List Value) (F : List Nat) (q : Int) (h1 : tCh.own w c cs F) (hn : F.Nodup) (hq0 : 0 ≤ q) (hq1 : q ≤ 100000000000) (hc : cntMStS c.past ≤ 1000000000) :
    Calls Try.prog 25 #[.agg cs.toArray, .int .i64 q] w (RetMk tCh (q + cntMCh c) (markCh q c) cs F w) := by
  have S := Sep.startOwn h1 hn
  obtain ⟨b1, b2, s1, s2, s3, s4, A1, n1, A2, n2, F1, F2, F3, F4, rfl, rfl, hI, S⟩ := S.openCh
  have l3 := (S.row (d := tInt) (xs := c.knows) memA).le
  have hB : cntBk c.bank ≤ 4194304 := by
    obtain ⟨_, _, _, _, _, _, g1, g2, _⟩ := S.own (d := tBk) (x := c.bank) (F := F1) memA
    have := g1.le
    have := g2.le
    unfold cntBk
    omega
  have hS : cntMSt c.st ≤ 104857600 := by
    obtain ⟨_, _, _, _, _, _, _, _, _, _, g1, g2, g3, g4, _⟩ := S.own (d := tSt) (x := c.st) (F := F2) memA
    have := g1.le
    have := g2.le
    have := g3.le
    have := g4.le
    unfold cntMSt
    omega
  clear h1
  go_enter Try.func25, Try.ntmps25
  go_wp2_with (first
    | (go_at_call 73; (with_reducible refine (markBank_c _ c.bank _ F1 _ (S.own memA) (S.ownNd memA) (by omega) (by omega)).mono ?_); rintro e w9 ⟨rfl, h9, c9⟩; replace S := S.putOwn putA h9 c9; clear h9 c9)
    | (go_at_call 44; (with_reducible refine (markState_c _ c.st _ F2 _ (S.own memA) (S.ownNd memA) (by omega) (by omega)).mono ?_); rintro e w9 ⟨rfl, h9, c9⟩; replace S := S.putOwn putA h9 c9; clear h9 c9)
    | (go_at_call 74; (with_reducible refine (markStateS_c _ (.slice A1 c.past.length n1) c.past F3 _ (S.row memA) (S.rowNd memA) (by omega) (by omega) hc).mono ?_); rintro e w9 ⟨rfl, h9, c9⟩; replace S := S.putRow putA h9 c9; clear h9 c9)
    | (go_at_call 75; (with_reducible refine (markIntS_c _ (.slice A2 c.knows.length n2) c.knows F4 _ (S.row memA) (by omega) (by omega)).mono ?_); rintro e w9 ⟨rfl, h9, c9⟩; replace S := S.putRow putA h9 c9; clear h9 c9)
    | ((with_reducible refine gate_box rfl ?_); refine aBx S ?_; clear S; intro g9 w9 z9 S) | ((with_reducible refine gate_load rfl ?_); first | refine aLd S ?_ | refine aPt S ?_ | refine aL1 S ?_))
  have S2 := (Sep.only4 (a1 := aOwn tBk _ _ F1) (a2 := aOwn tSt _ _ F2) (a3 := aRow tSt _ _ _ F3) (a4 := aRow tInt _ _ _ F4) S delA delA delA delA)
  have S' := Sep.shutCh' (b := markBk q c.bank) (s := markSt (q + cntBk c.bank) c.st) (i := c.id) S2 hI
  go_ret
  exact ⟨ret_int (by unfold cntMCh; omega), S'.own List.mem_cons_self, S'.chg⟩
theorem markChain_b (w : World) (c : Ch) (cs : List Value) (F : List Nat) (q : Int) (hc : cntMStS c.past ≤ 1000000000) (h : tCh.own w c cs F ∧ F.Nodup) (hq0 : 0 ≤ q) (hq1 : q ≤ 100000000000) :
    Calls Try.prog 25 #[.agg cs.toArray, .int .i64 q] w (RetMk tCh (q + cntMCh c) (markCh q c) cs F w) := markChain_c w c cs F q h.1 h.2 hq0 hq1 hc
set_option maxHeartbeats 3200000 in
theorem heldChain_c (w : World) (c : Ch) (c1 : List Value) (q : Int) (h1 : tCh.rd w (markCh q c) c1) (hb : SmallCh c) (hq0 : 0 ≤ q) (hq1 : q ≤ 100000000000) :
    Calls Try.prog 26 #[.agg c1.toArray, .int .i64 q] w (Ret (.int .i64 (q + cntMCh c)) w) := by
  replace h1 : tCh.rd w ⟨c.id, markBk q c.bank, markSt (q + cntBk c.bank) c.st, marksS (q + cntBk c.bank + cntMSt c.st) c.past, marksI (q + cntBk c.bank + cntMSt c.st + cntMStS c.past) c.knows.length⟩ c1 := h1
  obtain ⟨b1, b2, s1, s2, s3, s4, v1, v2, rfl, h11, h12, h13, h14, _⟩ := h1
  obtain ⟨hb1, hb2, hb3, hb4, hb5⟩ := hb
  have hB : cntBk c.bank ≤ 4194304 := by unfold cntBk; omega
  have hS : cntMSt c.st ≤ 104857600 := by
    obtain ⟨g1, g2, g3, g4⟩ := hb2
    unfold cntMSt
    omega
  have HB1 := Lib.hid hb1
  have HB2 := Lib.hid hb2
  have HB3 := Lib.hid hb3
  clear hb1 hb2 hb3
  have S := Sep.start w
  go_enter Try.func26, Try.ntmps26
  go_wp2_with (first
    | (go_at_call 76; (with_reducible refine (heldBank_c _ c.bank _ q (tBk.fr S.frame h11) HB1.out (by omega) (by omega)).mono ?_); rintro e w9 ⟨rfl, f9⟩; replace S := S.fr f9; clear f9)
    | (go_at_call 45; (with_reducible refine (heldState_c _ c.st _ (q + (cntBk c.bank : Int)) (tSt.fr S.frame h12) HB2.out (by omega) (by omega)).mono ?_); rintro e w9 ⟨rfl, f9⟩; replace S := S.fr f9; clear f9)
    | (go_at_call 77; (with_reducible refine (heldStateS_c _ _ c.past (q + (cntBk c.bank : Int) + (cntMSt c.st : Int)) (h13.fr S.frame) HB3.out (by omega) (by omega) hb4).mono ?_); rintro e w9 ⟨rfl, f9⟩; replace S := S.fr f9; clear f9)
    | (go_at_call 78; (with_reducible refine (heldIntS_c _ _ c.knows.length (q + (cntBk c.bank : Int) + (cntMSt c.st : Int) + (cntMStS c.past : Int)) (h14.fr S.frame) hb5 (by omega) (by omega)).mono ?_); rintro e w9 ⟨rfl, f9⟩; replace S := S.fr f9; clear f9)
    | ((with_reducible refine gate_box rfl ?_); refine aBx S ?_; clear S; intro g9 w9 z9 S) | ((with_reducible refine gate_load rfl ?_); first | refine aLd S ?_ | refine aPt S ?_ | refine aL1 S ?_))
  go_ret
  exact ⟨ret_int (by unfold cntMCh; omega), S.frame⟩
end Go.Proofs.Ytapdcgjccckjeaa
