/- The program's packet text is the reference's, for every packet. -/
import Derived.Test.YtphojlkljlnfjaaDoorPt
import Derived.Test.YtphojlkljlnfjaaDoorPkTo
namespace Go.Proofs.YtphojlkljlnfjaaDoor
set_option maxRecDepth 100000
set_option linter.unusedVariables false
set_option linter.unusedSimpArgs false
open Go.RowKit
theorem psize34 : (Tryd.prog.info? 34).map (·.size) = some 7 := by kernel_rfl
theorem sPacketText_p (w : World) (p : Pk) : Calls Tryd.prog 11 #[.agg p.cells.toArray] w (Ret (.string ⟨(txtV p).toArray⟩) w) := sPacketText_c w p
theorem PacketText_p (w : World) (p : Pk) : Calls Tryd.prog 10 #[.agg p.cells.toArray] w (Ret (.string ⟨(txtV p).toArray⟩) w) := PacketText_c w p
set_option maxHeartbeats 1600000 in
theorem FnExactPacketText_c (w : World) (p : Pk) (c1 : List Value) (h1 : tPk.rd w p c1) : Calls Tryd.prog 6 #[.agg c1.toArray] w (Ret (.bool true) w) := by
  obtain ⟨rfl, hp⟩ := h1
  have f := Fr.refl w
  go_enter Tryd.func6, Tryd.ntmps6
  go_wp2_with (first
    | ((with_reducible refine gate_dst (N := 1) rfl ?_); refine wpList_box rfl _ _ rfl p.cells.toArray rfl ?_; intro g_k1 w9 hg_k1 k1 f9; have zf_k1 := f.size; have hl_k1 := k1.lt; have z9 := f9.size; replace f := f.trans f9)
    | ((with_reducible refine gate_dst (N := 5) rfl ?_); refine wpList_bget k1 rfl _ _ rfl rfl _ Tryd.underlying34 rfl psize34 rfl ?_)
    | ((with_reducible refine gate_dst (N := 8) rfl ?_); refine wpList_bget k1 rfl _ _ rfl rfl _ Tryd.underlying34 rfl psize34 rfl ?_)
    | (go_at_call 17; (with_reducible refine (toPacket_c _ p hp).mono ?_); rintro e w9 ⟨rfl, f9⟩; have z9 := f9.size; replace f := f.trans f9; (try (replace k1 := k1.fr f9; (try clear r_k1); have r_k1 := k1.cells)))
    | (go_at_call 11; go_loud ((with_reducible refine (sPacketText_p _ p).mono ?_); rintro e w9 ⟨rfl, f9⟩; replace f := f.trans f9; replace k1 := k1.fr f9; clear f9))
    | (go_at_call 10; go_loud ((with_reducible refine (PacketText_p _ p).mono ?_); rintro e w9 ⟨rfl, f9⟩; replace f := f.trans f9; replace k1 := k1.fr f9; clear f9)))
  go_ret
  exact ⟨rfl, f⟩
end Go.Proofs.YtphojlkljlnfjaaDoor
