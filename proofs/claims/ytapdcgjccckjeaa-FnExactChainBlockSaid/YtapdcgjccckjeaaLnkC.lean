/- What the methods of a link do: how it is made, copied, lengthened by a height, and handed over. -/
import Derived.Test.YtapdcgjccckjeaaLnk
import Derived.Test.YtapdcgjccckjeaaFresh
import Derived.Test.YtapdcgjccckjeaaBankNew
import Derived.Test.YtapdcgjccckjeaaStNew
namespace Go.Proofs.Ytapdcgjccckjeaa
set_option maxRecDepth 100000
set_option linter.unusedVariables false
set_option linter.unusedSimpArgs false
open Go.RowKit
theorem Sep.front2 {F0 : List Nat} {w0 w : World} {L L1 L2 : List Asrt} {a1 : Asrt} {a2 : Asrt} (S : Sep F0 w0 L w) (p1 : Del L a1 L1 := by (repeat (first | with_reducible exact Del.head _ _ | with_reducible apply Del.tail)) <;> fail) (p2 : Del L1 a2 L2 := by (repeat (first | with_reducible exact Del.head _ _ | with_reducible apply Del.tail)) <;> fail) : Sep F0 w0 (a1 :: a2 :: L2) w := by
  have T1 := S.pull p1
  have T2 := T1.pull (.tail _ p2)
  have U2 := T2
  have U1 := U2.pull (.tail _ (.head _ _))
  exact U1
theorem Sep.front3 {F0 : List Nat} {w0 w : World} {L L1 L2 L3 : List Asrt} {a1 : Asrt} {a2 : Asrt} {a3 : Asrt} (S : Sep F0 w0 L w) (p1 : Del L a1 L1 := by (repeat (first | with_reducible exact Del.head _ _ | with_reducible apply Del.tail)) <;> fail) (p2 : Del L1 a2 L2 := by (repeat (first | with_reducible exact Del.head _ _ | with_reducible apply Del.tail)) <;> fail) (p3 : Del L2 a3 L3 := by (repeat (first | with_reducible exact Del.head _ _ | with_reducible apply Del.tail)) <;> fail) : Sep F0 w0 (a1 :: a2 :: a3 :: L3) w := by
  have T1 := S.pull p1
  have T2 := T1.pull (.tail _ p2)
  have T3 := T2.pull (.tail _ (.tail _ p3))
  have U3 := T3
  have U2 := U3.pull (.tail _ (.head _ _))
  have U1 := U2.pull (.tail _ (.tail _ (.head _ _)))
  exact U1
theorem Sep.front4 {F0 : List Nat} {w0 w : World} {L L1 L2 L3 L4 : List Asrt} {a1 : Asrt} {a2 : Asrt} {a3 : Asrt} {a4 : Asrt} (S : Sep F0 w0 L w) (p1 : Del L a1 L1 := by (repeat (first | with_reducible exact Del.head _ _ | with_reducible apply Del.tail)) <;> fail) (p2 : Del L1 a2 L2 := by (repeat (first | with_reducible exact Del.head _ _ | with_reducible apply Del.tail)) <;> fail) (p3 : Del L2 a3 L3 := by (repeat (first | with_reducible exact Del.head _ _ | with_reducible apply Del.tail)) <;> fail) (p4 : Del L3 a4 L4 := by (repeat (first | with_reducible exact Del.head _ _ | with_reducible apply Del.tail)) <;> fail) : Sep F0 w0 (a1 :: a2 :: a3 :: a4 :: L4) w := by
  have T1 := S.pull p1
  have T2 := T1.pull (.tail _ p2)
  have T3 := T2.pull (.tail _ (.tail _ p3))
  have T4 := T3.pull (.tail _ (.tail _ (.tail _ p4)))
  have U4 := T4
  have U3 := U4.pull (.tail _ (.head _ _))
  have U2 := U3.pull (.tail _ (.tail _ (.head _ _)))
  have U1 := U2.pull (.tail _ (.tail _ (.tail _ (.head _ _))))
  exact U1
/-- A call that leaves the parts A where it was handed the blocks F. -/
def RetS (v : Value) (F : List Nat) (A : List Asrt) (w : World) : Ending → World → Prop := fun e w' => e = .returned v ∧ Sep F w A w'
theorem Sep.startLnk {w : World} {g : Nat} {c : Ch} {F : List Nat} (h : (aLnk g c F).ok w) (hn : F.Nodup) : Sep F w [aLnk g c F] w :=
  ⟨Chg.refl _ _, (fun a ha => by rw [List.mem_singleton.1 ha]; exact h), (fun a ha q hq => by rw [List.mem_singleton.1 ha] at hq; exact .inl hq), by simpa [fps, aLnk] using hn⟩
theorem Sep.lnk {F0 : List Nat} {w0 w : World} {L : List Asrt} {g : Nat} {c : Ch} {F : List Nat} (S : Sep F0 w0 L w) (h : aLnk g c F ∈ L) : (aLnk g c F).ok w ∧ F.Nodup := ⟨S.ok _ h, S.nodup h⟩
theorem Sep.callLnk {F0 : List Nat} {w0 w w' : World} {L L' A' : List Asrt} {g : Nat} {c : Ch} {F : List Nat} (S : Sep F0 w0 L w) (p : Del L (aLnk g c F) L') (T : Sep F w A' w') : Sep F0 w0 (A' ++ L') w' := Sep.call [aLnk g c F] (S.pull p) (by simpa [fps, aLnk] using T)
set_option maxHeartbeats 3200000 in
theorem bankCopy_c (w : World) (b : Bk) (c1 : List Value) (h1 : tBk.rd w b c1) (hb : b.own.length ≤ 2097152 ∧ b.notes.length ≤ 2097152) : Calls Try.prog 130 #[.agg c1.toArray] w (RetOwn tBk b w) := by
  obtain ⟨v1, v2, rfl, h11, h12, h13⟩ := h1
  obtain ⟨b1, b2⟩ := hb
  have S := Sep.start w
  go_enter Try.func130, Try.ntmps130
  go_wp2_with (first | ((with_reducible refine gate_dst (N := 1) rfl ?_); refine aBx S ?_; clear S; intro gP w9 z9 S) | ((with_reducible refine gate_dst (N := 2) rfl ?_); refine aAl S ?_; clear S; intro gR w9 z9 S))
  have S0 := (Sep.only1 (a1 := aBox gP _ _ _) S delA)
  refine wp_region_noPanic ?_
  refine wp_region_held_drew (S := Sep _ _ _) (by kernel_rfl) S0.drew (fun _ => ?_)
  replace S := S.drew
  clear S0
  refine tk 0 ?_
  (try simp only [Act.put, List.setIfInBounds_toArray, List.set_cons_zero, List.set_cons_succ])
  refine tk 1 ?_
  (try simp only [Act.put, List.setIfInBounds_toArray, List.set_cons_zero, List.set_cons_succ])
  refine tk 3 ?_
  (try simp only [Act.put, List.setIfInBounds_toArray, List.set_cons_zero, List.set_cons_succ])
  refine tk 4 ?_
  (try simp only [Act.put, List.setIfInBounds_toArray, List.set_cons_zero, List.set_cons_succ])
  refine tk 6 ?_
  (try simp only [Act.put, List.setIfInBounds_toArray, List.set_cons_zero, List.set_cons_succ])
  refine tk 7 ?_
  (try simp only [Act.put, List.setIfInBounds_toArray, List.set_cons_zero, List.set_cons_succ])
  refine rdy1 2 (fun K hK => ?_)
  go_simp; (skip; go_at_call 127; (with_reducible refine (freshI_c _ _ b.own (h11.fr S.frame) b1).mono ?_); rintro e w9 ⟨v9, F9, rfl, h9, n9, b9, f9⟩; obtain ⟨A9, c9, rfl⟩ := h9.row.val; replace S := S.new (aRow tInt 3 _ (.slice A9 _ c9) F9) h9 n9 b9 f9; clear h9 n9 b9 f9)
  (first | refine hK.out _ _ (S.sub subA) (fun _ => ?_) | (go_wp2_with fail; refine hK.out _ _ (S.sub subA) (fun _ => ?_)))
  clear hK K
  (try simp only [Act.put, List.setIfInBounds_toArray, List.set_cons_zero, List.set_cons_succ])
  refine rdy1 5 (fun K hK => ?_)
  go_simp; (skip; go_at_call 127; (with_reducible refine (freshI_c _ _ b.notes (h12.fr S.frame) b2).mono ?_); rintro e w9 ⟨v9, F9, rfl, h9, n9, b9, f9⟩; obtain ⟨A9, c9, rfl⟩ := h9.row.val; replace S := S.new (aRow tInt 3 _ (.slice A9 _ c9) F9) h9 n9 b9 f9; clear h9 n9 b9 f9)
  (first | refine hK.out _ _ (S.sub subA) (fun _ => ?_) | (go_wp2_with fail; refine hK.out _ _ (S.sub subA) (fun _ => ?_)))
  clear hK K
  (try simp only [Act.put, List.setIfInBounds_toArray, List.set_cons_zero, List.set_cons_succ])
  refine tk 8 ?_
  (try simp only [Act.put, List.setIfInBounds_toArray, List.set_cons_zero, List.set_cons_succ])
  refine rdy1 9 (fun K hK => ?_)
  (first | refine rgS1 S ?_ | refine rgSt S ?_ | refine rgSp S ?_); clear S; intro w9 S
  (first | refine hK.out _ _ (S.sub subA) (fun _ => ?_) | (go_wp2_with fail; refine hK.out _ _ (S.sub subA) (fun _ => ?_)))
  clear hK K
  (try simp only [Act.put, List.setIfInBounds_toArray, List.set_cons_zero, List.set_cons_succ])
  refine wpAnyH_done (by kernel_rfl) ?_ _
  refine NoPanic.normal ?_
  go_wp2
  have S' := Sep.shutBk (l := b.locked) (Sep.only2 (a1 := aRow tInt _ b.own _ _) (a2 := aRow tInt _ b.notes _ _) S delA delA) h13
  (refine Sep.ret1 S rfl rfl memA Try.underlying26 rfl ts26 rfl ?_)
  exact S'.retOwn List.mem_cons_self
def newCh (id : Int) : Ch := ⟨id, newBk, newSt, [], []⟩
set_option maxHeartbeats 3200000 in
theorem linkNew_c (w : World) (id : Int) (hi : I64 id) : Calls Try.prog 64 #[.int .i64 id] w fun e w' => ∃ g F, e = .returned (.pointer (some ⟨g, 0, none⟩)) ∧ Sep [] w [aLnk g (newCh id) F] w' := by
  have S := Sep.start w
  go_enter Try.func64, Try.ntmps64
  go_wp2_with (first
    | (go_at_call 21; (with_reducible refine (BankNew_c _).mono ?_); rintro e w9 ⟨cs9, F9, rfl, h9, n9, b9, f9⟩; replace S := S.new (aOwn tBk _ cs9 F9) h9 n9 b9 f9; clear h9 n9 b9 f9; obtain ⟨x1, x2, Y1, Y2, rfl, rfl, I9, S⟩ := S.openBk)
    | (go_at_call 23; (with_reducible refine (StateNew_c _).mono ?_); rintro e w9 ⟨cs9, F9, rfl, h9, n9, b9, f9⟩; replace S := S.new (aOwn tSt _ cs9 F9) h9 n9 b9 f9; clear h9 n9 b9 f9; obtain ⟨A1, n1, A2, n2, A3, n3, A4, n4, Z1, Z2, Z3, Z4, rfl, rfl, J9, S⟩ := S.openSt)
    | ((with_reducible refine gate_box rfl ?_); refine aBx S ?_; clear S; intro g9 w9 z9 S) | ((with_reducible refine gate_alloc rfl ?_); refine aAl S ?_; clear S; intro g9 w9 z9 S) | ((with_reducible refine gate_load rfl ?_); first | refine aLd S ?_ | refine aPt S ?_ | refine aL1 S ?_) | ((with_reducible refine gate_st rfl ?_); (first | refine aS1 S ?_ | refine aSt S ?_ | refine aSp S ?_); clear S; intro w9 S))
  have S := S.mksNew
  have S := S.addNil tInt 3
  have S' := S.allLnk ⟨id, newBk, newSt, [], []⟩ I9 J9 hi
  go_ret
  exact ⟨_, _, rfl, S'.left [_]⟩
end Go.Proofs.Ytapdcgjccckjeaa
