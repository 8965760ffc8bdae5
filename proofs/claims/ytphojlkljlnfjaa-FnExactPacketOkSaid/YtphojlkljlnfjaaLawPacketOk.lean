/- The program's PacketOk returns what the reference's returns, for every packet. -/
import Derived.Test.YtphojlkljlnfjaaPkOk
import Derived.Test.YtphojlkljlnfjaaPkTo
namespace Go.Proofs.Ytphojlkljlnfjaa
set_option linter.unusedVariables false
set_option linter.unusedSimpArgs false
open Go.RowKit
theorem psize24 : (Try.prog.info? 24).map (·.size) = some 7 := by kernel_rfl
set_option maxHeartbeats 1600000 in
theorem FnExactPacketOk_c (w : World) (p : Pk) (c1 : List Value) (h1 : tPk.rd w p c1) : Calls Try.prog 4 #[.agg c1.toArray] w (Ret (.bool true) w) := by
  obtain ⟨rfl, hp⟩ := h1
  have f := Fr.refl w
  go_enter Try.func4, Try.ntmps4
  go_wp2_with (first
    | ((with_reducible refine gate_dst (N := 1) rfl ?_); refine wpList_box rfl _ _ rfl p.cells.toArray rfl ?_; intro g_k1 w9 hg_k1 k1 f9; have zf_k1 := f.size; have hl_k1 := k1.lt; have z9 := f9.size; replace f := f.trans f9)
    | ((with_reducible refine gate_dst (N := 5) rfl ?_); refine wpList_bget k1 rfl _ _ rfl rfl _ Try.underlying24 rfl psize24 rfl ?_)
    | ((with_reducible refine gate_dst (N := 8) rfl ?_); refine wpList_bget k1 rfl _ _ rfl rfl _ Try.underlying24 rfl psize24 rfl ?_)
    | (go_at_call 8; (with_reducible refine (toPacket_c _ p hp).mono ?_); rintro e w9 ⟨rfl, f9⟩; have z9 := f9.size; replace f := f.trans f9; (try (replace k1 := k1.fr f9; (try clear r_k1); have r_k1 := k1.cells)))
    | (go_at_call 7; (with_reducible refine (sPacketOk_c _ p).mono ?_); rintro e w9 ⟨rfl, f9⟩; have z9 := f9.size; replace f := f.trans f9; (try (replace k1 := k1.fr f9; (try clear r_k1); have r_k1 := k1.cells)))
    | (go_at_call 9; (with_reducible refine (PacketOk_c _ p).mono ?_); rintro e w9 ⟨rfl, f9⟩; have z9 := f9.size; replace f := f.trans f9; (try (replace k1 := k1.fr f9; (try clear r_k1); have r_k1 := k1.cells))))
  go_ret
  exact ⟨rfl, f⟩
end Go.Proofs.Ytphojlkljlnfjaa
