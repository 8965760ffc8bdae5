/- The program's and the reference's ChainNew. -/
import Derived.Test.YtapdcgjccckjeaaLnkE
namespace Go.Proofs.Ytapdcgjccckjeaa
set_option maxRecDepth 100000
set_option linter.unusedVariables false
set_option linter.unusedSimpArgs false
open Go.RowKit
def nilCh : Ch := ⟨0, ⟨[], [], 0⟩, ⟨0, 0, 0, [], [], [], []⟩, [], []⟩
theorem nilCh_own (w : World) : tCh.own w nilCh [.int .i64 0, .slice none 0 0, .slice none 0 0, .int .i64 0, .int .i64 0, .int .i64 0, .int .i64 0, .slice none 0 0, .slice none 0 0, .slice none 0 0, .slice none 0 0, .slice none 0 0, .slice none 0 0] [] :=
  ⟨.slice none 0 0, .slice none 0 0, .slice none 0 0, .slice none 0 0, .slice none 0 0, .slice none 0 0, .slice none 0 0, .slice none 0 0, [], [], [], [], rfl, rfl, ⟨.slice none 0 0, .slice none 0 0, [], [], rfl, rfl, Ty.orow.nil _ _ _, Ty.orow.nil _ _ _, by unfold I64; simp [nilCh]⟩, zStS_own w, Ty.orow.nil _ _ _, Ty.orow.nil _ _ _, by unfold I64; simp [nilCh]⟩
theorem Sep.nilCh {F0 : List Nat} {w0 w : World} {L : List Asrt} (S : Sep F0 w0 L w) : Sep F0 w0 (aOwn tCh nilCh [.int .i64 0, .slice none 0 0, .slice none 0 0, .int .i64 0, .int .i64 0, .int .i64 0, .int .i64 0, .slice none 0 0, .slice none 0 0, .slice none 0 0, .slice none 0 0, .slice none 0 0, .slice none 0 0] [] :: L) w :=
  S.new (aOwn tCh Go.Proofs.Ytapdcgjccckjeaa.nilCh _ []) (nilCh_own w) (by simp [aOwn]) (fun q hq => by cases hq) (Fr.refl _)
theorem Sep.call01 {F0 : List Nat} {w0 w w' : World} {L : List Asrt} {a : Asrt} (S : Sep F0 w0 L w) (T : Sep [] w [a] w') : Sep F0 w0 (a :: L) w' := Sep.call [] S T
theorem Sep.callLnk1 {F0 : List Nat} {w0 w w' : World} {L L' : List Asrt} {a : Asrt} {g : Nat} {c : Ch} {F : List Nat} (S : Sep F0 w0 L w) (p : Del L (aLnk g c F) L') (T : Sep F w [a] w') : Sep F0 w0 (a :: L') w' := S.callLnk p T
theorem newCh_len (id : Int) : (newCh id).past.length ≤ 1000000 := Nat.zero_le _
def chNewV (id : Int) : Ch × Bool := if id = 1 ∨ id = 2 then (newCh id, true) else (nilCh, false)
set_option maxHeartbeats 3200000 in
theorem ChainNew_c (w : World) (id : Int) (hi : I64 id) : Calls Try.prog 17 #[.int .i64 id] w (RetOwn2 tCh (chNewV id) w) := by
  have S := Sep.start w
  by_cases h : id = 1 ∨ id = 2
  · have R := Lib.hid (show chNewV id = (newCh id, true) by unfold chNewV; rw [if_pos h])
    have HI := Lib.hid hi
    clear hi
    rcases h with rfl | rfl
    all_goals
      go_enter Try.func17, Try.ntmps17
      go_wp2_with (first
        | (go_at_call 64; (with_reducible refine (linkNew_c _ _ HI.out).mono ?_); rintro e w9 ⟨g9, F9, rfl, T9⟩; replace S := S.call01 T9; clear T9)
        | (go_at_call 65; (with_reducible refine (chain_c _ g9 (newCh _) F9 (S.lnk memA) (newCh_len _)).mono ?_); rintro e w9 ⟨cs9, G9, rfl, T9⟩; replace S := S.callLnk1 delA T9; clear T9)
        | ((with_reducible refine gate_box rfl ?_); refine aBx S ?_; clear S; intro g9 w9 z9 S) | ((with_reducible refine gate_alloc rfl ?_); refine aAl S ?_; clear S; intro g9 w9 z9 S) | ((with_reducible refine gate_load rfl ?_); first | refine aLd S ?_ | refine aPt S ?_ | refine aL1 S ?_) | ((with_reducible refine gate_st rfl ?_); (first | refine aS1 S ?_ | refine aSt S ?_ | refine aSp S ?_); clear S; intro w9 S))
      (refine Sep.ret1_1 S rfl rfl memA Try.underlying33 rfl ts33 rfl rfl ?_)
      rw [R.out]
      exact S.retOwn2 memA
  · have R := Lib.hid (show chNewV id = (nilCh, false) by unfold chNewV; rw [if_neg h])
    have d1 : (id != 1) = true := by simp; omega
    have d2 : (id != 2) = true := by simp; omega
    clear h hi
    go_enter Try.func17, Try.ntmps17
    go_wp2_with (first | ((with_reducible refine gate_box rfl ?_); refine aBx S ?_; clear S; intro g9 w9 z9 S) | ((with_reducible refine gate_alloc rfl ?_); refine aAl S ?_; clear S; intro g9 w9 z9 S) | ((with_reducible refine gate_load rfl ?_); first | refine aLd S ?_ | refine aPt S ?_ | refine aL1 S ?_) | ((with_reducible refine gate_st rfl ?_); (first | refine aS1 S ?_ | refine aSt S ?_ | refine aSp S ?_); clear S; intro w9 S))
    have S' := S.nilCh
    (refine Sep.ret1_1 S rfl rfl memA Try.underlying33 rfl ts33 rfl rfl ?_)
    rw [R.out]
    exact S'.retOwn2 List.mem_cons_self
set_option maxHeartbeats 3200000 in
theorem sChainNew_c (w : World) (id : Int) (hi : I64 id) : Calls Try.prog 16 #[.int .i64 id] w (RetOwn2 tCh (chNewV id) w) := by
  have S := Sep.start w
  by_cases h : id = 1 ∨ id = 2
  · have R := Lib.hid (show chNewV id = (newCh id, true) by unfold chNewV; rw [if_pos h])
    have HI := Lib.hid (show decide (1 ≤ id ∧ id ≤ 2) = true by simp; omega)
    clear h
    go_enter Try.func16, Try.ntmps16
    go_wp2_with (first
      | (go_at_call 61; (with_reducible refine (l6In_e _ id 1 2 HI.out).mono ?_); rintro e w9 ⟨rfl, rfl⟩)
      | (go_at_call 62; (with_reducible refine (sBankNew_c _).mono ?_); rintro e w9 ⟨cs9, F9, rfl, h9, n9, b9, f9⟩; replace S := S.new (aOwn tBk _ cs9 F9) h9 n9 b9 f9; clear h9 n9 b9 f9; obtain ⟨x1, x2, Y1, Y2, rfl, rfl, I9, S9⟩ := S.openBk; replace S := S9; clear S9)
      | (go_at_call 63; (with_reducible refine (sStateNew_c _).mono ?_); rintro e w9 ⟨cs9, F9, rfl, h9, n9, b9, f9⟩; replace S := S.new (aOwn tSt _ cs9 F9) h9 n9 b9 f9; clear h9 n9 b9 f9; obtain ⟨A1, n1, A2, n2, A3, n3, A4, n4, Z1, Z2, Z3, Z4, rfl, rfl, J9, S9⟩ := S.openSt; replace S := S9; clear S9)
      | ((with_reducible refine gate_dst (N := 11) rfl ?_); refine aLit0 tSt (e := 30) S ?_; clear S; intro g11 w9 z9 S)
      | ((with_reducible refine gate_dst (N := 12) rfl ?_); refine aLit0 tInt (e := 3) S ?_; clear S; intro g12 w9 z9 S)
      | ((with_reducible refine gate_box rfl ?_); refine aBx S ?_; clear S; intro g9 w9 z9 S) | ((with_reducible refine gate_alloc rfl ?_); refine aAl S ?_; clear S; intro g9 w9 z9 S) | ((with_reducible refine gate_load rfl ?_); first | refine aLd S ?_ | refine aPt S ?_ | refine aL1 S ?_) | ((with_reducible refine gate_st rfl ?_); (first | refine aS1 S ?_ | refine aSt S ?_ | refine aSp S ?_); clear S; intro w9 S))
    have S' := S.allCh ⟨id, newBk, newSt, [], []⟩ I9 J9 hi
    (refine Sep.ret1_1 S rfl rfl memA Try.underlying33 rfl ts33 rfl rfl ?_)
    rw [R.out]
    exact S'.retOwn2 List.mem_cons_self
  · have R := Lib.hid (show chNewV id = (nilCh, false) by unfold chNewV; rw [if_neg h])
    have HI := Lib.hid (show decide (1 ≤ id ∧ id ≤ 2) = false by simp; omega)
    clear h hi
    go_enter Try.func16, Try.ntmps16
    go_wp2_with (first
      | (go_at_call 61; (with_reducible refine (l6In_e _ id 1 2 HI.out).mono ?_); rintro e w9 ⟨rfl, rfl⟩)
      | ((with_reducible refine gate_box rfl ?_); refine aBx S ?_; clear S; intro g9 w9 z9 S) | ((with_reducible refine gate_alloc rfl ?_); refine aAl S ?_; clear S; intro g9 w9 z9 S) | ((with_reducible refine gate_load rfl ?_); first | refine aLd S ?_ | refine aPt S ?_ | refine aL1 S ?_) | ((with_reducible refine gate_st rfl ?_); (first | refine aS1 S ?_ | refine aSt S ?_ | refine aSp S ?_); clear S; intro w9 S))
    have S' := S.nilCh
    (refine Sep.ret1_1 S rfl rfl memA Try.underlying33 rfl ts33 rfl rfl ?_)
    rw [R.out]
    exact S'.retOwn2 List.mem_cons_self
theorem ChainNew_e (w : World) (id : Int) (hi : I64 id) {x : Ch} {ok : Bool} (hR : chNewV id = (x, ok)) : Calls Try.prog 17 #[.int .i64 id] w (RetOwn2 tCh (x, ok) w) := hR ▸ ChainNew_c w id hi
theorem sChainNew_e (w : World) (id : Int) (hi : I64 id) {x : Ch} {ok : Bool} (hR : chNewV id = (x, ok)) : Calls Try.prog 16 #[.int .i64 id] w (RetOwn2 tCh (x, ok) w) := hR ▸ sChainNew_c w id hi
theorem chNewV_small {id : Int} {x : Ch} {ok : Bool} (hR : chNewV id = (x, ok)) : SmallCh x := by
  unfold chNewV at hR
  split at hR
  all_goals
    simp only [Prod.mk.injEq] at hR
    rw [← hR.1]
  · exact ⟨⟨by simp [newCh, newBk], by simp [newCh, newBk]⟩, by simp [Small, newCh, newSt], fun k h => by simp [newCh] at h, by simp [newCh, cntMStS], by simp [newCh]⟩
  · exact ⟨⟨by simp [nilCh], by simp [nilCh]⟩, by simp [Small, nilCh], fun k h => by simp [nilCh] at h, by simp [nilCh, cntMStS], by simp [nilCh]⟩
end Go.Proofs.Ytapdcgjccckjeaa
