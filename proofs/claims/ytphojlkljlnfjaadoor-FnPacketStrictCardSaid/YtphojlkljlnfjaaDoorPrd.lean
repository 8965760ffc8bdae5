/- The program's PacketRead; two packets compared by the laws. -/
import Derived.Test.YtphojlkljlnfjaaDoorPrt
import Derived.Test.YtphojlkljlnfjaaDoorPkEq
namespace Go.Proofs.YtphojlkljlnfjaaDoor
set_option maxRecDepth 100000
set_option linter.unusedVariables false
set_option linter.unusedSimpArgs false
open Go.RowKit
theorem tsE : (Tryd.prog.info? 47).map (·.size) = some 1 := by kernel_rfl
instance : TyInf 47 false 1 := ⟨⟨_, Tryd.underlying47, rfl⟩, tsE⟩
theorem parsed_no (w : World) (s : List UInt8) {a : Addr} (hr : rdV s = (zeroPk, false)) (L : Laid a w) : Calls Tryd.prog 28 #[.string ⟨s.toArray⟩] w fun e w' => e = .returned (.tuple #[.agg #[.int .i64 0, .int .i64 0, .int .i64 0, .int .i64 0, .int .i64 0, .int .i64 0, .int .i64 0], .iface 120 (.pointer (some a))]) ∧ Fr w w' := by
  have H := packetParse_c w s L
  unfold Parsed at H
  rw [hr] at H
  exact H
theorem parsed_yes (w : World) (s : List UInt8) {a : Addr} (v0 v1 v2 v3 v4 v5 v6 : Int) (hr : rdV s = (⟨v0, v1, v2, v3, v4, v5, v6⟩, true)) (L : Laid a w) : Calls Tryd.prog 28 #[.string ⟨s.toArray⟩] w fun e w' => e = .returned (.tuple #[.agg #[.int .i64 v0, .int .i64 v1, .int .i64 v2, .int .i64 v3, .int .i64 v4, .int .i64 v5, .int .i64 v6], .nilIface]) ∧ Fr w w' := by
  have H := packetParse_c w s L
  unfold Parsed at H
  rw [hr] at H
  exact H
set_option maxHeartbeats 3200000 in
theorem PacketRead_no (w : World) (s : List UInt8) {a : Addr} (L : Laid a w) (hr : rdV s = (zeroPk, false)) : Calls Tryd.prog 12 #[.string ⟨s.toArray⟩] w (Ret (.tuple #[.agg #[.int .i64 0, .int .i64 0, .int .i64 0, .int .i64 0, .int .i64 0, .int .i64 0, .int .i64 0], .bool false]) w) := by
  have S := Sep.start w
  have LD := Lib.hid L
  replace hr := Lib.hid hr
  clear L
  go_enter Tryd.func12, Tryd.ntmps12
  go_wp2_with (first
    | (go_at_call 28; go_loud ((with_reducible refine (parsed_no _ s hr.out (LD.out.fr S.frame)).mono ?_); rintro e w9 ⟨rfl, f9⟩; replace S := S.fr f9; clear f9))
    | ((with_reducible refine gate_dst (N := 12) rfl ?_); go_loud (refine wpList_rowint rfl 47 _ rfl rfl (v := .iface 120 (.pointer (some a))) (LD.out.fr S.frame).e0 _ Tryd.underlying47 rfl ?_))
    | (go_at_call 29; go_loud ((with_reducible refine (is_same a _).mono ?_); rintro e w9 ⟨rfl, rfl⟩))
    | ((with_reducible refine gate_box rfl ?_); refine aBx S ?_; clear S; intro g9 w9 z9 S) | ((with_reducible refine gate_alloc rfl ?_); refine aAl S ?_; clear S; intro g9 w9 z9 S) | ((with_reducible refine gate_load rfl ?_); first | refine aLd S ?_ | refine aPt S ?_ | refine aL1 S ?_) | ((with_reducible refine gate_st rfl ?_); (first | refine aS1 S ?_ | refine aSt S ?_ | refine aSp S ?_); clear S; intro w9 S))
  (refine Sep.ret1_1 S rfl rfl memA Tryd.underlying24 rfl ts24 rfl rfl ?_)
  exact ⟨rfl, S.frame⟩
set_option maxHeartbeats 3200000 in
theorem PacketRead_yes (w : World) (s : List UInt8) {a : Addr} (L : Laid a w) (v0 v1 v2 v3 v4 v5 v6 : Int) (hr : rdV s = (⟨v0, v1, v2, v3, v4, v5, v6⟩, true)) : Calls Tryd.prog 12 #[.string ⟨s.toArray⟩] w (Ret (.tuple #[.agg #[.int .i64 v0, .int .i64 v1, .int .i64 v2, .int .i64 v3, .int .i64 v4, .int .i64 v5, .int .i64 v6], .bool true]) w) := by
  have S := Sep.start w
  have LD := Lib.hid L
  replace hr := Lib.hid hr
  clear L
  go_enter Tryd.func12, Tryd.ntmps12
  go_wp2_with (first
    | (go_at_call 28; go_loud ((with_reducible refine (parsed_yes _ s v0 v1 v2 v3 v4 v5 v6 hr.out (LD.out.fr S.frame)).mono ?_); rintro e w9 ⟨rfl, f9⟩; replace S := S.fr f9; clear f9))
    | ((with_reducible refine gate_dst (N := 12) rfl ?_); go_loud (refine wpList_rowint rfl 47 _ rfl rfl (v := .iface 120 (.pointer (some a))) (LD.out.fr S.frame).e0 _ Tryd.underlying47 rfl ?_))
    | (go_at_call 29; go_loud ((with_reducible refine (is_nil a _).mono ?_); rintro e w9 ⟨rfl, rfl⟩))
    | ((with_reducible refine gate_box rfl ?_); refine aBx S ?_; clear S; intro g9 w9 z9 S) | ((with_reducible refine gate_alloc rfl ?_); refine aAl S ?_; clear S; intro g9 w9 z9 S) | ((with_reducible refine gate_load rfl ?_); first | refine aLd S ?_ | refine aPt S ?_ | refine aL1 S ?_) | ((with_reducible refine gate_st rfl ?_); (first | refine aS1 S ?_ | refine aSt S ?_ | refine aSp S ?_); clear S; intro w9 S))
  (refine Sep.ret1_1 S rfl rfl memA Tryd.underlying24 rfl ts24 rfl rfl ?_)
  exact ⟨rfl, S.frame⟩
theorem PacketRead_c (w : World) (s : List UInt8) {a : Addr} (L : Laid a w) : Calls Tryd.prog 12 #[.string ⟨s.toArray⟩] w (Ret (.tuple #[.agg (rdV s).1.cells.toArray, .bool (rdV s).2]) w) := by
  have hz : (rdV s).2 = false → rdV s = (zeroPk, false) := by
    unfold rdV
    split
    · intro h; cases h
    · intro _; rfl
  rcases h : rdV s with ⟨⟨v0, v1, v2, v3, v4, v5, v6⟩, b⟩
  cases b with
  | false =>
    have k := hz (by rw [h])
    have e := h.symm.trans k
    injection e with e1 e2
    rw [e1]
    exact PacketRead_no w s L k
  | true => exact PacketRead_yes w s L v0 v1 v2 v3 v4 v5 v6 h
end Go.Proofs.YtphojlkljlnfjaaDoor
