/- The program reads a packet's text as the reference does. -/
import Derived.Test.YtphojlkljlnfjaaDoorSrd
import Derived.Test.YtphojlkljlnfjaaDoorPrd
import Derived.Test.YtphojlkljlnfjaaDoorLaidDoor
namespace Go.Proofs.YtphojlkljlnfjaaDoor
set_option maxRecDepth 100000
set_option linter.unusedVariables false
set_option linter.unusedSimpArgs false
open Go.RowKit
set_option maxHeartbeats 3200000 in
theorem eqPacket_same (w : World) (v0 v1 v2 v3 v4 v5 v6 : Int) : Calls Tryd.prog 14 #[.agg #[.int .i64 v0, .int .i64 v1, .int .i64 v2, .int .i64 v3, .int .i64 v4, .int .i64 v5, .int .i64 v6], .agg #[.int .i64 v0, .int .i64 v1, .int .i64 v2, .int .i64 v3, .int .i64 v4, .int .i64 v5, .int .i64 v6]] w (Ret (.bool true) w) := by
  have S := Sep.start w
  go_enter Tryd.func14, Tryd.ntmps14
  go_wp2_with (first | ((with_reducible refine gate_box rfl ?_); refine aBx S ?_; clear S; intro g9 w9 z9 S) | ((with_reducible refine gate_alloc rfl ?_); refine aAl S ?_; clear S; intro g9 w9 z9 S) | ((with_reducible refine gate_load rfl ?_); first | refine aLd S ?_ | refine aPt S ?_ | refine aL1 S ?_) | ((with_reducible refine gate_st rfl ?_); (first | refine aS1 S ?_ | refine aSt S ?_ | refine aSp S ?_); clear S; intro w9 S))
  go_ret
  exact ⟨rfl, S.frame⟩
set_option maxHeartbeats 3200000 in
theorem read_law (w : World) (s : List UInt8) {a : Addr} (L : Laid a w) : Calls Tryd.prog 4 #[.string ⟨s.toArray⟩] w (Ret (.bool true) w) := by
  have S := Sep.start w
  have LD := Lib.hid L
  clear L
  by_cases hbig : 1048576 < s.length
  · have hbb : decide ((1048576 : Int) < s.length) = true := decide_eq_true (by omega)
    go_enter Tryd.func4, Tryd.ntmps4
    go_wp2
    go_ret
    exact ⟨rfl, S.frame⟩
  have hbb : decide ((1048576 : Int) < s.length) = false := decide_eq_false (by omega)
  clear hbig
  have A1 := Lib.hid (show ∀ W, Calls Tryd.prog 13 #[.string ⟨s.toArray⟩] W (Ret (.tuple #[.agg (rdV s).1.cells.toArray, .bool (rdV s).2]) W) from fun W => sPacketRead_c W s)
  have A2 := Lib.hid (show ∀ W, Laid a W → Calls Tryd.prog 12 #[.string ⟨s.toArray⟩] W (Ret (.tuple #[.agg (rdV s).1.cells.toArray, .bool (rdV s).2]) W) from fun W h => PacketRead_c W s h)
  rcases hr : rdV s with ⟨⟨v0, v1, v2, v3, v4, v5, v6⟩, b⟩
  rw [hr] at A1 A2
  clear hr
  simp only [Pk.cells] at A1 A2
  go_enter Tryd.func4, Tryd.ntmps4
  go_wp2_with (first
    | (go_at_call 13; go_loud ((with_reducible refine (A1.out _).mono ?_); rintro e w9 ⟨rfl, f9⟩; replace S := S.fr f9; clear f9))
    | (go_at_call 12; go_loud ((with_reducible refine (A2.out _ (LD.out.fr S.frame)).mono ?_); rintro e w9 ⟨rfl, f9⟩; replace S := S.fr f9; clear f9))
    | (go_at_call 14; go_loud ((with_reducible refine (eqPacket_same _ v0 v1 v2 v3 v4 v5 v6).mono ?_); rintro e w9 ⟨rfl, f9⟩; replace S := S.fr f9; clear f9))
    | ((with_reducible refine gate_box rfl ?_); refine aBx S ?_; clear S; intro g9 w9 z9 S) | ((with_reducible refine gate_alloc rfl ?_); refine aAl S ?_; clear S; intro g9 w9 z9 S) | ((with_reducible refine gate_load rfl ?_); first | refine aLd S ?_ | refine aPt S ?_ | refine aL1 S ?_) | ((with_reducible refine gate_st rfl ?_); (first | refine aS1 S ?_ | refine aSt S ?_ | refine aSp S ?_); clear S; intro w9 S))
  all_goals
    go_ret
    exact ⟨rfl, S.frame⟩
theorem FnExactPacketRead_c (w : World) (x : ByteArray) (_hx : x.size ≤ maxLen) {a : Addr} (L : Laid a w) : Calls Tryd.prog 4 #[.string x] w (Ret (.bool true) w) := by
  obtain ⟨⟨s⟩⟩ := x
  exact read_law w s L
end Go.Proofs.YtphojlkljlnfjaaDoor
