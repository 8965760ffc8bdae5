/- A packet comes back out of its text. -/
import Derived.Test.YtphojlkljlnfjaaDoorLawPacketOne
import Derived.Test.YtphojlkljlnfjaaDoorPrd
import Derived.Test.YtphojlkljlnfjaaDoorOpenBytes
import Derived.Test.YtphojlkljlnfjaaDoorLaidDoor
namespace Go.Proofs.YtphojlkljlnfjaaDoor
set_option maxRecDepth 100000
set_option linter.unusedVariables false
set_option linter.unusedSimpArgs false
open Go.RowKit
theorem txtV_ok {p : Pk} (h : ¬txtV p = []) : okPk p = true := by
  cases e : okPk p with
  | true => rfl
  | false => exact absurd (txtV_no e) h
theorem PacketRead_back (w : World) (p : Pk) (h : ¬txtV p = []) {a : Addr} (L : Laid a w) : Calls Tryd.prog 12 #[.string ⟨(txtV p).toArray⟩] w (Ret (.tuple #[.agg p.cells.toArray, .bool true]) w) := by
  have k := PacketRead_c w (txtV p) L
  have ho := txtV_ok h
  rw [txtV_yes ho, rdV_yes ho] at k
  rw [txtV_yes ho]
  exact k
theorem PacketOk_back (w : World) (p : Pk) (h : ¬txtV p = []) : Calls Tryd.prog 16 #[.agg p.cells.toArray] w (Ret (.bool true) w) := txtV_ok h ▸ PacketOk_c w p
theorem PacketOk_back2 (w : World) (p : Pk) (h : ¬txtV p = []) : Calls Tryd.prog 16 #[.agg #[.int .i64 p.seq, .int .i64 p.kind, .int .i64 p.frm, .int .i64 p.dst, .int .i64 p.sum, .int .i64 p.til, .int .i64 p.ver]] w (Ret (.bool true) w) := txtV_ok h ▸ PacketOk_c w p
set_option maxHeartbeats 3200000 in
theorem FnPacketBack_c (w : World) (v0 : Value) (bs0 : List Int) (h0 : tByte.row w v0 bs0) {a : Addr} (L : Laid a w) : Calls Tryd.prog 8 #[v0] w (Ret (.bool true) w) := by
  have f := Fr.refl w
  have LD := Lib.hid L
  clear L
  obtain ⟨A0, c0, rfl⟩ := h0.val
  by_cases hbig : 1048576 < bs0.length
  · have hbb : decide ((1048576 : Int) < bs0.length) = true := decide_eq_true (by omega)
    go_enter Tryd.func8, Tryd.ntmps8
    go_wp2
    go_ret
    exact ⟨rfl, f⟩
  have hbb : decide ((1048576 : Int) < bs0.length) = false := decide_eq_false (by omega)
  clear hbig
  go_enter Tryd.func8, Tryd.ntmps8
  go_wp2_with (first
    | (go_at_call 9; (with_reducible refine (DrawPacketText_c _ _ bs0 (h0.fr f)).mono ?_); rintro e w9 ⟨p, rfl, hp, f9⟩; have z9 := f9.size; replace f := f.trans f9; (try (replace k3 := k3.fr f9; (try clear r_k3); have r_k3 := k3.cells)); (try (replace k5 := k5.fr f9; (try clear r_k5); have r_k5 := k5.cells)))
    | ((with_reducible refine gate_dst (N := 3) rfl ?_); refine wpList_alloc rfl _ rfl _ (pzero24 _) #[.int .i64 0, .int .i64 0, .int .i64 0, .int .i64 0, .int .i64 0, .int .i64 0, .int .i64 0] rfl ?_; intro g_k3 w9 hg_k3 k3 f9; have zf_k3 := f.size; have hl_k3 := k3.lt; have z9 := f9.size; replace f := f.trans f9; (try (replace k5 := k5.fr f9; (try clear r_k5); have r_k5 := k5.cells)); (try clear r_k3); have r_k3 := k3.cells)
    | ((with_reducible refine gate_store (p := 3) rfl ?_); refine wpList_bstore k3 rfl _ _ _ rfl 0 7 rfl (.agg #[.int .i64 p.seq, .int .i64 p.kind, .int .i64 p.frm, .int .i64 p.dst, .int .i64 p.sum, .int .i64 p.til, .int .i64 p.ver]) rfl #[.int .i64 p.seq, .int .i64 p.kind, .int .i64 p.frm, .int .i64 p.dst, .int .i64 p.sum, .int .i64 p.til, .int .i64 p.ver] rfl rfl psize24 (by simp) (by intro u hu; simp at hu; rcases hu with rfl | rfl | rfl | rfl | rfl | rfl | rfl <;> rfl) #[.int .i64 p.seq, .int .i64 p.kind, .int .i64 p.frm, .int .i64 p.dst, .int .i64 p.sum, .int .i64 p.til, .int .i64 p.ver] rfl ?_; intro w9 k9 c9; have z9 := c9.size; replace f := f.own c9 (fun q hq => by have := List.mem_singleton.1 hq; have := f.size; omega); (try (replace k5 := k5.chg c9 (fun hm => by have := List.mem_singleton.1 hm; omega); (try clear r_k5); have r_k5 := k5.cells)); replace k3 := k9; clear k9; (try clear r_k3); have r_k3 := k3.cells)
    | ((with_reducible refine gate_dst (N := 5) rfl ?_); refine wpList_alloc rfl _ rfl _ (pzero24 _) #[.int .i64 0, .int .i64 0, .int .i64 0, .int .i64 0, .int .i64 0, .int .i64 0, .int .i64 0] rfl ?_; intro g_k5 w9 hg_k5 k5 f9; have zf_k5 := f.size; have hl_k5 := k5.lt; have z9 := f9.size; replace f := f.trans f9; (try (replace k3 := k3.fr f9; (try clear r_k3); have r_k3 := k3.cells)); (try clear r_k5); have r_k5 := k5.cells)
    | ((with_reducible refine gate_store (p := 5) rfl ?_); refine wpList_bstore k5 rfl _ _ _ rfl 0 7 rfl (.agg #[.int .i64 p.seq, .int .i64 p.kind, .int .i64 p.frm, .int .i64 p.dst, .int .i64 p.sum, .int .i64 p.til, .int .i64 p.ver]) rfl #[.int .i64 p.seq, .int .i64 p.kind, .int .i64 p.frm, .int .i64 p.dst, .int .i64 p.sum, .int .i64 p.til, .int .i64 p.ver] rfl rfl psize24 (by simp) (by intro u hu; simp at hu; rcases hu with rfl | rfl | rfl | rfl | rfl | rfl | rfl <;> rfl) #[.int .i64 p.seq, .int .i64 p.kind, .int .i64 p.frm, .int .i64 p.dst, .int .i64 p.sum, .int .i64 p.til, .int .i64 p.ver] rfl ?_; intro w9 k9 c9; have z9 := c9.size; replace f := f.own c9 (fun q hq => by have := List.mem_singleton.1 hq; have := f.size; omega); (try (replace k3 := k3.chg c9 (fun hm => by have := List.mem_singleton.1 hm; omega); (try clear r_k3); have r_k3 := k3.cells)); replace k5 := k9; clear k9; (try clear r_k5); have r_k5 := k5.cells)
    | ((with_reducible refine gate_dst (N := 12) rfl ?_); refine wpList_bload k3 rfl _ _ rfl 0 7 rfl _ Tryd.underlying24 rfl psize24 (by simp) (Pk.cells p).toArray rfl ?_)
    | ((with_reducible refine gate_dst (N := 15) rfl ?_); refine wpList_bload k3 rfl _ _ rfl 0 7 rfl _ Tryd.underlying24 rfl psize24 (by simp) (Pk.cells p).toArray rfl ?_)
    | ((with_reducible refine gate_dst (N := 23) rfl ?_); refine wpList_bload k3 rfl _ _ rfl 0 7 rfl _ Tryd.underlying24 rfl psize24 (by simp) (Pk.cells p).toArray rfl ?_)
    | ((with_reducible refine gate_dst (N := 34) rfl ?_); refine wpList_bload k3 rfl _ _ rfl 0 7 rfl _ Tryd.underlying24 rfl psize24 (by simp) (Pk.cells p).toArray rfl ?_)
    | ((with_reducible refine gate_dst (N := 38) rfl ?_); refine wpList_bload k3 rfl _ _ rfl 0 7 rfl _ Tryd.underlying24 rfl psize24 (by simp) (Pk.cells p).toArray rfl ?_)
    | ((with_reducible refine gate_dst (N := 33) rfl ?_); refine wpList_bload k5 rfl _ _ rfl 0 7 rfl _ Tryd.underlying24 rfl psize24 (by simp) (Pk.cells p).toArray rfl ?_)
    | (go_at_call 10; (with_reducible refine (PacketText_p _ p).mono ?_); rintro e w9 ⟨rfl, f9⟩; have z9 := f9.size; replace f := f.trans f9; (try (replace k3 := k3.fr f9; (try clear r_k3); have r_k3 := k3.cells)); (try (replace k5 := k5.fr f9; (try clear r_k5); have r_k5 := k5.cells)))
    | (go_at_call 11; (with_reducible refine (sPacketText_p _ p).mono ?_); rintro e w9 ⟨rfl, f9⟩; have z9 := f9.size; replace f := f.trans f9; (try (replace k3 := k3.fr f9; (try clear r_k3); have r_k3 := k3.cells)); (try (replace k5 := k5.fr f9; (try clear r_k5); have r_k5 := k5.cells)))
    | (go_at_call 12; (with_reducible refine (PacketRead_back _ p (by first | assumption | simp_all) (LD.out.fr f)).mono ?_); rintro e w9 ⟨rfl, f9⟩; have z9 := f9.size; replace f := f.trans f9; (try (replace k3 := k3.fr f9; (try clear r_k3); have r_k3 := k3.cells)); (try (replace k5 := k5.fr f9; (try clear r_k5); have r_k5 := k5.cells)))
    | (go_at_call 16; (with_reducible refine (PacketOk_back _ p (by first | assumption | simp_all)).mono ?_); rintro e w9 ⟨rfl, f9⟩; have z9 := f9.size; replace f := f.trans f9; (try (replace k3 := k3.fr f9; (try clear r_k3); have r_k3 := k3.cells)); (try (replace k5 := k5.fr f9; (try clear r_k5); have r_k5 := k5.cells)))
    | (go_at_call 16; (with_reducible refine (PacketOk_back2 _ p (by first | assumption | simp_all)).mono ?_); rintro e w9 ⟨rfl, f9⟩; have z9 := f9.size; replace f := f.trans f9; (try (replace k3 := k3.fr f9; (try clear r_k3); have r_k3 := k3.cells)); (try (replace k5 := k5.fr f9; (try clear r_k5); have r_k5 := k5.cells)))
    | ((with_reducible refine gate_dst (N := 35) rfl ?_); refine aPkEq (p := p) (q := p) ?_))
  all_goals (go_ret; exact ⟨rfl, f⟩)
end Go.Proofs.YtphojlkljlnfjaaDoor
