/- What the program reads is what it would write. -/
import Derived.Test.YtphojlkljlnfjaaDoorLawPacketRead
import Derived.Test.YtphojlkljlnfjaaDoorDrd
import Derived.Test.YtphojlkljlnfjaaDoorOpenBytes
namespace Go.Proofs.YtphojlkljlnfjaaDoor
set_option maxRecDepth 100000
set_option linter.unusedVariables false
set_option linter.unusedSimpArgs false
open Go.RowKit
theorem rdV_true {s : List UInt8} {p : Pk} (h : rdV s = (p, true)) : okPk p = true ∧ txtV p = s := by
  unfold rdV at h
  split at h
  · rename_i k
    injection h with h1 _
    rw [h1] at k
    exact ⟨k.1, by unfold txtV; rw [k.1, if_pos rfl]; exact k.2⟩
  · cases h
set_option maxHeartbeats 3200000 in
theorem FnPacketStrict_c (w : World) (v0 : Value) (bs0 : List Int) (h0 : tByte.row w v0 bs0) {a : Addr} (L : Laid a w) : Calls Tryd.prog 5 #[v0] w (Ret (.bool true) w) := by
  have S := Sep.start w
  have LD := Lib.hid L
  clear L
  obtain ⟨A0, c0, rfl⟩ := h0.val
  by_cases hbig : 1048576 < bs0.length
  · have hbb : decide ((1048576 : Int) < bs0.length) = true := decide_eq_true (by omega)
    go_enter Tryd.func5, Tryd.ntmps5
    go_wp2
    go_ret
    exact ⟨rfl, S.frame⟩
  have hbb : decide ((1048576 : Int) < bs0.length) = false := decide_eq_false (by omega)
  clear hbig
  go_enter Tryd.func5, Tryd.ntmps5
  go_wp2_with (first | (go_at_call 15; go_loud ((with_reducible refine (DrawPacketRead_c _ _ bs0 (h0.fr S.frame)).mono ?_); rintro e w9 ⟨z, rfl, f9⟩; replace S := S.fr f9; clear f9)))
  have A1 := fun W => sPacketRead_c W z
  have A2 := fun W (h : Laid a W) => PacketRead_c W z h
  rcases hr : rdV z with ⟨⟨v0, v1, v2, v3, v4, v5, v6⟩, b⟩
  rw [hr] at A1 A2
  simp only [Pk.cells] at A1 A2
  replace A1 := Lib.hid A1
  replace A2 := Lib.hid A2
  cases b with
  | false =>
    clear hr
    refine (A1.out _).mono ?_
    rintro e w9 ⟨rfl, f9⟩
    replace S := S.fr f9
    clear f9
    go_wp2_with (first
      | (go_at_call 12; go_loud ((with_reducible refine (A2.out _ (LD.out.fr S.frame)).mono ?_); rintro e w9 ⟨rfl, f9⟩; replace S := S.fr f9; clear f9))
      | ((with_reducible refine gate_box rfl ?_); refine aBx S ?_; clear S; intro g9 w9 z9 S) | ((with_reducible refine gate_alloc rfl ?_); refine aAl S ?_; clear S; intro g9 w9 z9 S) | ((with_reducible refine gate_load rfl ?_); first | refine aLd S ?_ | refine aPt S ?_ | refine aL1 S ?_) | ((with_reducible refine gate_st rfl ?_); (first | refine aS1 S ?_ | refine aSt S ?_ | refine aSp S ?_); clear S; intro w9 S))
    all_goals
      go_ret
      exact ⟨rfl, S.frame⟩
  | true =>
    have hk := Lib.hid (rdV_true hr).1
    have ht := Lib.hid (rdV_true hr).2
    clear hr
    refine (A1.out _).mono ?_
    rintro e w9 ⟨rfl, f9⟩
    replace S := S.fr f9
    clear f9
    go_wp2_with (first
      | (go_at_call 12; go_loud ((with_reducible refine (A2.out _ (LD.out.fr S.frame)).mono ?_); rintro e w9 ⟨rfl, f9⟩; replace S := S.fr f9; clear f9))
      | (go_at_call 16; go_loud ((with_reducible refine (PacketOk_v _ v0 v1 v2 v3 v4 v5 v6 hk.out).mono ?_); rintro e w9 ⟨rfl, f9⟩; replace S := S.fr f9; clear f9))
      | (go_at_call 10; go_loud ((with_reducible refine (PacketText_v _ v0 v1 v2 v3 v4 v5 v6 ht.out).mono ?_); rintro e w9 ⟨rfl, f9⟩; replace S := S.fr f9; clear f9))
      | ((with_reducible refine gate_box rfl ?_); refine aBx S ?_; clear S; intro g9 w9 z9 S) | ((with_reducible refine gate_alloc rfl ?_); refine aAl S ?_; clear S; intro g9 w9 z9 S) | ((with_reducible refine gate_load rfl ?_); first | refine aLd S ?_ | refine aPt S ?_ | refine aL1 S ?_) | ((with_reducible refine gate_st rfl ?_); (first | refine aS1 S ?_ | refine aSt S ?_ | refine aSp S ?_); clear S; intro w9 S))
    all_goals
      go_ret
      exact ⟨rfl, S.frame⟩
end Go.Proofs.YtphojlkljlnfjaaDoor
