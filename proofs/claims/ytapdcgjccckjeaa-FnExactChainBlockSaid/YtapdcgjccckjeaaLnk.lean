/- Links and their marks, as parts of memory. -/
import Derived.Test.YtapdcgjccckjeaaChNext
namespace Go.Proofs.Ytapdcgjccckjeaa
set_option maxRecDepth 100000
set_option linter.unusedVariables false
set_option linter.unusedSimpArgs false
open Go.RowKit
/-- Marks, the last height first. -/
def mks (w : World) : Value → List St → List Nat → Prop
  | p, [], F => p = .pointer none ∧ F = []
  | p, s :: ss, F => ∃ g v1 v2 v3 v4 p' F1 F2, p = .pointer (some ⟨g, 0, none⟩) ∧ F = g :: (F1 ++ F2) ∧ Box w g 138 #[.int .i64 s.way, .int .i64 s.vsn, .int .i64 s.want, v1, v2, v3, v4, p'] ∧ tSt.own w s [.int .i64 s.way, .int .i64 s.vsn, .int .i64 s.want, v1, v2, v3, v4] F1 ∧ mks w p' ss F2
theorem mks_lt {w : World} : ∀ {ss : List St} {p : Value} {F : List Nat}, mks w p ss F → ∀ g ∈ F, g < w.heap.size
  | [], _, _, h, g, hg => by rw [h.2] at hg; cases hg
  | s :: ss, _, _, h, g, hg => by
    obtain ⟨g0, v1, v2, v3, v4, p', F1, F2, rfl, rfl, h1, h2, h3⟩ := h
    rcases List.mem_cons.1 hg with rfl | hg
    · exact h1.lt
    rcases List.mem_append.1 hg with hg | hg
    · exact tSt.own_lt h2 g hg
    · exact mks_lt h3 g hg
theorem mks_keep {w w' : World} : ∀ {ss : List St} {p : Value} {F : List Nat}, mks w p ss F → (∀ g ∈ F, w'.heap[g]? = w.heap[g]?) → mks w' p ss F
  | [], _, _, h, _ => h
  | s :: ss, _, _, h, hk => by
    obtain ⟨g0, v1, v2, v3, v4, p', F1, F2, rfl, rfl, h1, h2, h3⟩ := h
    exact ⟨g0, v1, v2, v3, v4, p', F1, F2, rfl, rfl, ⟨(hk g0 (by simp)).trans h1.blk⟩, tSt.keep h2 (fun g hg => hk g (by simp [hg])), mks_keep h3 (fun g hg => hk g (by simp [hg]))⟩
def aMks (p : Value) (ss : List St) (F : List Nat) : Asrt where
  fp := F
  ok := fun w => mks w p ss F
  lt := fun h => mks_lt h
  keep := fun h hk => mks_keep h hk
theorem mks_one {w : World} {p : Value} {ss : List St} {F : List Nat} (h : mks w p ss F) : p.oneCell' = true := by
  cases ss with
  | nil => rw [h.1]; rfl
  | cons s ss =>
    obtain ⟨g0, v1, v2, v3, v4, p', F1, F2, rfl, _⟩ := h
    rfl
/-- Is it a pointer. -/
theorem mks_ptr {w : World} {p : Value} {ss : List St} {F : List Nat} (h : mks w p ss F) : ∃ a, p = .pointer a := by
  cases ss with
  | nil => exact ⟨_, h.1⟩
  | cons s ss =>
    obtain ⟨g0, v1, v2, v3, v4, p', F1, F2, rfl, _⟩ := h
    exact ⟨_, rfl⟩
section
variable {F0 : List Nat} {w0 w : World} {L : List Asrt} {p : Value} {F : List Nat}
theorem Sep.mksNil (S : Sep F0 w0 (aMks p [] F :: L) w) : p = .pointer none ∧ Sep F0 w0 L w := ⟨(S.ok (aMks p [] F) (by simp)).1, S.drop⟩
theorem Sep.mksNew (S : Sep F0 w0 L w) : Sep F0 w0 (aMks (.pointer none) [] [] :: L) w := S.new (aMks (.pointer none) [] []) ⟨rfl, rfl⟩ (by simp [aMks]) (fun q hq => by cases hq) (Fr.refl _)
theorem Sep.mksUncons {s : St} {ss : List St} (S : Sep F0 w0 (aMks p (s :: ss) F :: L) w) : ∃ g v1 v2 v3 v4 a F1 F2, p = .pointer (some ⟨g, 0, none⟩) ∧ F = g :: (F1 ++ F2) ∧
    Sep F0 w0 (aBox g 138 8 [.int .i64 s.way, .int .i64 s.vsn, .int .i64 s.want, v1, v2, v3, v4, .pointer a] :: aOwn tSt s [.int .i64 s.way, .int .i64 s.vsn, .int .i64 s.want, v1, v2, v3, v4] F1 :: aMks (.pointer a) ss F2 :: L) w := by
  have h := S.ok (aMks p (s :: ss) F) (by simp)
  obtain ⟨g0, v1, v2, v3, v4, p', F1, F2, rfl, rfl, h1, h2, h3⟩ := h
  obtain ⟨a, rfl⟩ := mks_ptr h3
  refine ⟨g0, v1, v2, v3, v4, a, F1, F2, rfl, rfl, S.conv [aBox g0 138 8 [.int .i64 s.way, .int .i64 s.vsn, .int .i64 s.want, v1, v2, v3, v4, .pointer a], aOwn tSt s _ F1, aMks (.pointer a) ss F2] (by simp [fps, aBox, aOwn, aMks]) ?_⟩
  intro x hx
  simp only [List.mem_cons, List.not_mem_nil, or_false] at hx
  rcases hx with rfl | rfl | rfl
  · exact ⟨h1, rfl⟩
  · exact h2
  · exact h3
theorem Sep.mksCons {s : St} {ss : List St} {g : Nat} {v1 v2 v3 v4 p' : Value} {F1 F2 : List Nat} (S : Sep F0 w0 (aBox g 138 8 [.int .i64 s.way, .int .i64 s.vsn, .int .i64 s.want, v1, v2, v3, v4, p'] :: aOwn tSt s [.int .i64 s.way, .int .i64 s.vsn, .int .i64 s.want, v1, v2, v3, v4] F1 :: aMks p' ss F2 :: L) w) :
    Sep F0 w0 (aMks (.pointer (some ⟨g, 0, none⟩)) (s :: ss) (g :: (F1 ++ F2)) :: L) w := by
  refine Sep.join [aBox g 138 8 [.int .i64 s.way, .int .i64 s.vsn, .int .i64 s.want, v1, v2, v3, v4, p'], aOwn tSt s _ F1, aMks p' ss F2] S _ (by simp [fps, aBox, aOwn, aMks]) fun h => ?_
  exact ⟨g, v1, v2, v3, v4, p', F1, F2, rfl, rfl, (h (aBox g 138 8 [.int .i64 s.way, .int .i64 s.vsn, .int .i64 s.want, v1, v2, v3, v4, p']) (by simp)).1, h (aOwn tSt s _ F1) (by simp), h (aMks p' ss F2) (by simp)⟩
end
/-- A chain that is being worked on, at block g. -/
def aLnk (g : Nat) (c : Ch) (F : List Nat) : Asrt where
  fp := F
  ok := fun w => ∃ x1 x2 v1 v2 v3 v4 p u2 Fb Fs Fm Fk, F = g :: (Fb ++ (Fs ++ (Fm ++ Fk))) ∧ Box w g 136 #[x1, x2, .int .i64 c.bank.locked, .int .i64 c.id, .int .i64 c.st.way, .int .i64 c.st.vsn, .int .i64 c.st.want, v1, v2, v3, v4, p, .int .i64 (c.past.length : Int), u2] ∧
    tBk.own w c.bank [x1, x2, .int .i64 c.bank.locked] Fb ∧ tSt.own w c.st [.int .i64 c.st.way, .int .i64 c.st.vsn, .int .i64 c.st.want, v1, v2, v3, v4] Fs ∧ mks w p c.past.reverse Fm ∧ tInt.orow 3 w u2 c.knows Fk ∧ I64 c.id
  lt := by
    rintro w ⟨x1, x2, v1, v2, v3, v4, p, u2, Fb, Fs, Fm, Fk, rfl, h1, h2, h3, h4, h5, _⟩ g hg
    rcases List.mem_cons.1 hg with rfl | hg
    · exact h1.lt
    rcases List.mem_append.1 hg with hg | hg
    · exact tBk.own_lt h2 g hg
    rcases List.mem_append.1 hg with hg | hg
    · exact tSt.own_lt h3 g hg
    rcases List.mem_append.1 hg with hg | hg
    · exact mks_lt h4 g hg
    · exact h5.lt g hg
  keep := by
    rintro w w' ⟨x1, x2, v1, v2, v3, v4, p, u2, Fb, Fs, Fm, Fk, rfl, h1, h2, h3, h4, h5, h6⟩ hk
    exact ⟨x1, x2, v1, v2, v3, v4, p, u2, Fb, Fs, Fm, Fk, rfl, ⟨(hk g (by simp)).trans h1.blk⟩, tBk.keep h2 (fun q hq => hk q (by simp [hq])), tSt.keep h3 (fun q hq => hk q (by simp [hq])), mks_keep h4 (fun q hq => hk q (by simp [hq])), h5.keep (fun q hq => hk q (by simp [hq])), h6⟩
section
variable {F0 : List Nat} {w0 w : World} {L : List Asrt} {g : Nat} {c : Ch} {F : List Nat}
theorem Sep.openLnk (S : Sep F0 w0 (aLnk g c F :: L) w) : ∃ A1 m1 A2 m2 B1 n1 B2 n2 B3 n3 B4 n4 p A5 m5 Y1 Y2 Z1 Z2 Z3 Z4 M1 K1, I64 c.bank.locked ∧ (I64 c.st.way ∧ I64 c.st.vsn ∧ I64 c.st.want) ∧ I64 c.id ∧
    Sep F0 w0 (aBox g 136 14 [.slice A1 c.bank.own.length m1, .slice A2 c.bank.notes.length m2, .int .i64 c.bank.locked, .int .i64 c.id, .int .i64 c.st.way, .int .i64 c.st.vsn, .int .i64 c.st.want, .slice B1 c.st.sent.length n1, .slice B2 c.st.live.length n2, .slice B3 c.st.back.length n3, .slice B4 c.st.got.length n4, .pointer p, .int .i64 (c.past.length : Int), .slice A5 c.knows.length m5] ::
      aRow tInt 3 c.bank.own (.slice A1 c.bank.own.length m1) Y1 :: aRow tInt 3 c.bank.notes (.slice A2 c.bank.notes.length m2) Y2 :: aRow tPk 88 c.st.sent (.slice B1 c.st.sent.length n1) Z1 :: aRow tBool 4 c.st.live (.slice B2 c.st.live.length n2) Z2 :: aRow tBool 4 c.st.back (.slice B3 c.st.back.length n3) Z3 :: aRow tInt 3 c.st.got (.slice B4 c.st.got.length n4) Z4 :: aMks (.pointer p) c.past.reverse M1 :: aRow tInt 3 c.knows (.slice A5 c.knows.length m5) K1 :: L) w := by
  have h := S.ok (aLnk g c F) (by simp)
  obtain ⟨x1, x2, v1, v2, v3, v4, p, u2, Fb, Fs, Fm, Fk, hF, h1, h2, h3, h4, h5, h6⟩ := h
  obtain ⟨d1, d2, Y1, Y2, e1, rfl, r1, r2, r3⟩ := h2
  simp only [List.cons.injEq, and_true] at e1
  obtain ⟨rfl, rfl⟩ := e1
  obtain ⟨t1, t2, t3, t4, Z1, Z2, Z3, Z4, e2, rfl, s1, s2, s3, s4, s5⟩ := h3
  simp only [List.cons.injEq, and_true, true_and] at e2
  obtain ⟨rfl, rfl, rfl, rfl⟩ := e2
  obtain ⟨A1, m1, rfl⟩ := r1.row.val
  obtain ⟨A2, m2, rfl⟩ := r2.row.val
  obtain ⟨B1, n1, rfl⟩ := s1.row.val
  obtain ⟨B2, n2, rfl⟩ := s2.row.val
  obtain ⟨B3, n3, rfl⟩ := s3.row.val
  obtain ⟨B4, n4, rfl⟩ := s4.row.val
  obtain ⟨A5, m5, rfl⟩ := h5.row.val
  obtain ⟨a, rfl⟩ := mks_ptr h4
  refine ⟨A1, m1, A2, m2, B1, n1, B2, n2, B3, n3, B4, n4, a, A5, m5, Y1, Y2, Z1, Z2, Z3, Z4, Fm, Fk, r3, s5, h6, S.conv [aBox g 136 14 _, aRow tInt 3 c.bank.own _ Y1, aRow tInt 3 c.bank.notes _ Y2, aRow tPk 88 c.st.sent _ Z1, aRow tBool 4 c.st.live _ Z2, aRow tBool 4 c.st.back _ Z3, aRow tInt 3 c.st.got _ Z4, aMks _ c.past.reverse Fm, aRow tInt 3 c.knows _ Fk] (by simp [fps, aBox, aRow, aMks, aLnk, hF]) ?_⟩
  intro x hx
  simp only [List.mem_cons, List.not_mem_nil, or_false] at hx
  rcases hx with rfl | rfl | rfl | rfl | rfl | rfl | rfl | rfl | rfl
  · exact ⟨h1, rfl⟩
  · exact r1
  · exact r2
  · exact s1
  · exact s2
  · exact s3
  · exact s4
  · exact h4
  · exact h5
end
/-- A link put together out of its parts, wherever they stand. -/
theorem Sep.allLnk {F0 : List Nat} {w0 w : World} {L L1 L2 L3 L4 L5 L6 L7 L8 L9 : List Asrt} {x1 x2 v1 v2 v3 v4 p u2 : Value} {Y1 Y2 Z1 Z2 Z3 Z4 M1 K1 : List Nat} {g : Nat} {nn : Int} {ms : List St} (c : Ch) (S : Sep F0 w0 L w) (I9 : I64 c.bank.locked) (J9 : I64 c.st.way ∧ I64 c.st.vsn ∧ I64 c.st.want) (h15 : I64 c.id) (p1 : Del L (aRow tInt 3 c.knows u2 K1) L1 := by (repeat (first | with_reducible exact Del.head _ _ | with_reducible apply Del.tail)) <;> fail) (p2 : Del L1 (aMks p ms M1) L2 := by (repeat (first | with_reducible exact Del.head _ _ | with_reducible apply Del.tail)) <;> fail) (p3 : Del L2 (aRow tInt 3 c.st.got v4 Z4) L3 := by (repeat (first | with_reducible exact Del.head _ _ | with_reducible apply Del.tail)) <;> fail) (p4 : Del L3 (aRow tBool 4 c.st.back v3 Z3) L4 := by (repeat (first | with_reducible exact Del.head _ _ | with_reducible apply Del.tail)) <;> fail) (p5 : Del L4 (aRow tBool 4 c.st.live v2 Z2) L5 := by (repeat (first | with_reducible exact Del.head _ _ | with_reducible apply Del.tail)) <;> fail) (p6 : Del L5 (aRow tPk 88 c.st.sent v1 Z1) L6 := by (repeat (first | with_reducible exact Del.head _ _ | with_reducible apply Del.tail)) <;> fail) (p7 : Del L6 (aRow tInt 3 c.bank.notes x2 Y2) L7 := by (repeat (first | with_reducible exact Del.head _ _ | with_reducible apply Del.tail)) <;> fail) (p8 : Del L7 (aRow tInt 3 c.bank.own x1 Y1) L8 := by (repeat (first | with_reducible exact Del.head _ _ | with_reducible apply Del.tail)) <;> fail) (p9 : Del L8 (aBox g 136 14 [x1, x2, .int .i64 c.bank.locked, .int .i64 c.id, .int .i64 c.st.way, .int .i64 c.st.vsn, .int .i64 c.st.want, v1, v2, v3, v4, p, .int .i64 nn, u2]) L9 := by (repeat (first | with_reducible exact Del.head _ _ | with_reducible apply Del.tail)) <;> fail) (hnn : nn = (c.past.length : Int) := by first | exact rfl | simp) (hms : ms = c.past.reverse := by first | exact rfl | simp) :
    Sep F0 w0 (aLnk g c (g :: ((Y1 ++ Y2) ++ ((Z1 ++ (Z2 ++ (Z3 ++ Z4))) ++ (M1 ++ K1)))) :: L9) w := by
  subst hnn
  subst hms
  have S1 := ((((((((S.pull p1).pull (.tail _ p2)).pull (.tail _ (.tail _ p3))).pull (.tail _ (.tail _ (.tail _ p4)))).pull (.tail _ (.tail _ (.tail _ (.tail _ p5))))).pull (.tail _ (.tail _ (.tail _ (.tail _ (.tail _ p6)))))).pull (.tail _ (.tail _ (.tail _ (.tail _ (.tail _ (.tail _ p7))))))).pull (.tail _ (.tail _ (.tail _ (.tail _ (.tail _ (.tail _ (.tail _ p8)))))))).pull (.tail _ (.tail _ (.tail _ (.tail _ (.tail _ (.tail _ (.tail _ (.tail _ p9))))))))
  refine Sep.join [aBox g 136 14 [x1, x2, .int .i64 c.bank.locked, .int .i64 c.id, .int .i64 c.st.way, .int .i64 c.st.vsn, .int .i64 c.st.want, v1, v2, v3, v4, p, .int .i64 (c.past.length : Int), u2], aRow tInt 3 c.bank.own x1 Y1, aRow tInt 3 c.bank.notes x2 Y2, aRow tPk 88 c.st.sent v1 Z1, aRow tBool 4 c.st.live v2 Z2, aRow tBool 4 c.st.back v3 Z3, aRow tInt 3 c.st.got v4 Z4, aMks p c.past.reverse M1, aRow tInt 3 c.knows u2 K1] S1 _ (by simp [fps, aBox, aRow, aMks, aLnk]) fun h => ?_
  exact ⟨x1, x2, v1, v2, v3, v4, p, u2, Y1 ++ Y2, Z1 ++ (Z2 ++ (Z3 ++ Z4)), M1, K1, rfl, (h (aBox g 136 14 [x1, x2, .int .i64 c.bank.locked, .int .i64 c.id, .int .i64 c.st.way, .int .i64 c.st.vsn, .int .i64 c.st.want, v1, v2, v3, v4, p, .int .i64 (c.past.length : Int), u2]) (by simp)).1, ⟨x1, x2, Y1, Y2, rfl, rfl, h (aRow tInt 3 c.bank.own x1 Y1) (by simp), h (aRow tInt 3 c.bank.notes x2 Y2) (by simp), I9⟩, ⟨v1, v2, v3, v4, Z1, Z2, Z3, Z4, rfl, rfl, h (aRow tPk 88 c.st.sent v1 Z1) (by simp), h (aRow tBool 4 c.st.live v2 Z2) (by simp), h (aRow tBool 4 c.st.back v3 Z3) (by simp), h (aRow tInt 3 c.st.got v4 Z4) (by simp), J9⟩, h (aMks p c.past.reverse M1) (by simp), h (aRow tInt 3 c.knows u2 K1) (by simp), h15⟩
end Go.Proofs.Ytapdcgjccckjeaa
