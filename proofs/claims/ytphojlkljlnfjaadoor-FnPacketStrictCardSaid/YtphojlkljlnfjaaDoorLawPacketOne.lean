/- DrawPacketText: some packet. Two texts are alike where the packets are. -/
import Derived.Test.YtphojlkljlnfjaaDoorDrawPkOk
import Derived.Test.YtphojlkljlnfjaaDoorPt
import Derived.Test.YtphojlkljlnfjaaDoorPkEq
import Derived.Test.YtphojlkljlnfjaaDoorOpenBytes
namespace Go.Proofs.YtphojlkljlnfjaaDoor
set_option maxRecDepth 100000
set_option linter.unusedVariables false
set_option linter.unusedSimpArgs false
open Go.RowKit
set_option maxHeartbeats 3200000 in
theorem DrawPacketText_c (w : World) (v0 : Value) (bs0 : List Int) (h0 : tByte.row w v0 bs0) : Calls Tryd.prog 9 #[v0] w (RetPk w) := by
  have f := Fr.refl w
  go_enter Tryd.func9, Tryd.ntmps9
  go_wp2_with (first
    | (go_at_call 20; (with_reducible refine (l6Open_c _ v0 bs0 (h0.fr f)).mono ?_); rintro e w9 ⟨g, v, bs, rfl, hg, kr, hr, hl, f9⟩; have hgl := kr.lt; have hgz := f.size; have f0 := f9; have z9 := f9.size; replace f := f.trans f9; (try replace k2 := k2.fr f9))
    | (go_at_call 19; (with_reducible refine (l71Packet_c _ _ g v bs _ kr f0 hg hr hl (by omega)).mono ?_); rintro e w9 ⟨⟨q1, q2, q3, q4, q5, q6, q7⟩, p', rfl, qok, _, k9, c9⟩; have z9 := c9.size; replace kr := k9; clear k9; (first | (replace f0 := f0.own c9 (fun q hq => by have := List.mem_singleton.1 hq; omega)) | clear f0); replace f := f.own c9 (fun q hq => by have := List.mem_singleton.1 hq; omega); (try replace k2 := k2.chg c9 (fun hm => by have := List.mem_singleton.1 hm; omega)); simp only [Pk.ok64] at qok)
    | ((with_reducible refine gate_dst (N := 2) rfl ?_); refine wpList_alloc rfl _ rfl _ (pzero24 _) #[.int .i64 0, .int .i64 0, .int .i64 0, .int .i64 0, .int .i64 0, .int .i64 0, .int .i64 0] rfl ?_; intro g_k2 w9 hg_k2 k2 f9; have hy_k2 := f.size; have hl_k2 := k2.lt; have z9 := f9.size; (try replace kr := kr.fr f9); (try replace f0 := f0.trans f9); replace f := f.trans f9; skip)
    | ((with_reducible refine gate_store (p := 2) rfl ?_); refine wpList_bstore k2 rfl _ _ _ rfl 0 7 rfl (.agg #[.int .i64 _, .int .i64 _, .int .i64 _, .int .i64 _, .int .i64 _, .int .i64 _, .int .i64 _]) rfl #[.int .i64 _, .int .i64 _, .int .i64 _, .int .i64 _, .int .i64 _, .int .i64 _, .int .i64 _] rfl rfl psize24 (by simp) (by intro u hu; simp at hu; rcases hu with rfl | rfl | rfl | rfl | rfl | rfl | rfl <;> rfl) #[.int .i64 _, .int .i64 _, .int .i64 _, .int .i64 _, .int .i64 _, .int .i64 _, .int .i64 _] rfl ?_; intro w9 k9 c9; have z9 := c9.size; replace kr := kr.chg c9 (fun hm => by have := List.mem_singleton.1 hm; omega); (first | (replace f0 := f0.own c9 (fun q hq => by have := List.mem_singleton.1 hq; omega)) | clear f0); replace f := f.own c9 (fun q hq => by have := List.mem_singleton.1 hq; omega); replace k2 := k9; clear k9))
  all_goals
    exact bodyPost_ret (v := .agg #[.int .i64 _, .int .i64 _, .int .i64 _, .int .i64 _, .int .i64 _, .int .i64 _, .int .i64 _]) (results_cell_row rfl _ _ g_k2 _ _ _ _ rfl k2.blk Tryd.underlying24 rfl psize24) rfl ⟨⟨_, _, _, _, _, _, _⟩, rfl, ⟨by simp only []; omega, by simp only []; omega, by simp only []; omega, by simp only []; omega, by simp only []; omega, by simp only []; omega, by simp only []; omega⟩, f⟩
theorem sPacketText_p (w : World) (p : Pk) : Calls Tryd.prog 11 #[.agg p.cells.toArray] w (Ret (.string ⟨(txtV p).toArray⟩) w) := sPacketText_c w p
theorem PacketText_p (w : World) (p : Pk) : Calls Tryd.prog 10 #[.agg p.cells.toArray] w (Ret (.string ⟨(txtV p).toArray⟩) w) := PacketText_c w p
theorem txtV_ne {p : Pk} (h : okPk p = true) : txtV p ≠ [] := by unfold txtV; rw [h, if_pos rfl]; exact txt_ne (okPk_small h)
theorem txtV_no {p : Pk} (h : okPk p = false) : txtV p = [] := by unfold txtV; rw [h]; rfl
theorem txtV_inj {p q : Pk} (hp : okPk p = true) (hq : okPk q = true) : txtV p = txtV q ↔ p = q := by
  refine ⟨fun h => ?_, fun h => h ▸ rfl⟩
  unfold txtV at h
  rw [hp, hq, if_pos rfl] at h
  exact txt_inj (okPk_small hp) (okPk_small hq) h
theorem one_key {p q : Pk} (h : ¬((txtV p).isEmpty = true ∨ (txtV q).isEmpty = true)) : ((txtV p == txtV q) == decide (p = q)) = true := by
  have hp : okPk p = true := by
    cases e : okPk p with
    | true => rfl
    | false => exact absurd (.inl (by rw [txtV_no e]; rfl)) h
  have hq : okPk q = true := by
    cases e : okPk q with
    | true => rfl
    | false => exact absurd (.inr (by rw [txtV_no e]; rfl)) h
  have k := txtV_inj hp hq
  by_cases e : p = q
  · subst e; simp
  · have e2 : ¬txtV p = txtV q := fun x => e (k.1 x)
    simp [e, e2]
set_option maxHeartbeats 3200000 in
theorem FnPacketOne_c (w : World) (v0 : Value) (bs0 : List Int) (h0 : tByte.row w v0 bs0) (v1 : Value) (bs1 : List Int) (h1 : tByte.row w v1 bs1) : Calls Tryd.prog 7 #[v0, v1] w (Ret (.bool true) w) := by
  have f := Fr.refl w
  obtain ⟨A0, c0, rfl⟩ := h0.val
  obtain ⟨A1, c1, rfl⟩ := h1.val
  by_cases hbig : 1048576 < bs0.length
  · have hbb : decide ((1048576 : Int) < bs0.length) = true := decide_eq_true (by omega)
    go_enter Tryd.func7, Tryd.ntmps7
    go_wp2
    go_ret
    exact ⟨rfl, f⟩
  by_cases hbig1 : 1048576 < bs1.length
  · have hbb : decide ((1048576 : Int) < bs0.length) = false := decide_eq_false (by omega)
    have hbb1 : decide ((1048576 : Int) < bs1.length) = true := decide_eq_true (by omega)
    go_enter Tryd.func7, Tryd.ntmps7
    go_wp2
    go_ret
    exact ⟨rfl, f⟩
  have hbb : decide ((1048576 : Int) < bs0.length) = false := decide_eq_false (by omega)
  have hbb1 : decide ((1048576 : Int) < bs1.length) = false := decide_eq_false (by omega)
  clear hbig hbig1
  go_enter Tryd.func7, Tryd.ntmps7
  go_wp2_with (first
    | (go_at_call 9; (with_reducible refine (DrawPacketText_c _ _ bs0 (h0.fr f)).mono ?_); rintro e w9 ⟨p, rfl, hp, f9⟩; have z9 := f9.size; replace f := f.trans f9; (try (replace k5 := k5.fr f9; (try clear r_k5); have r_k5 := k5.cells)); (try (replace k6 := k6.fr f9; (try clear r_k6); have r_k6 := k6.cells)))
    | (go_at_call 18; (with_reducible refine (DrawPacketOk_c _ _ bs1 (h1.fr f)).mono ?_); rintro e w9 ⟨q, rfl, hq, f9⟩; have z9 := f9.size; replace f := f.trans f9; (try (replace k5 := k5.fr f9; (try clear r_k5); have r_k5 := k5.cells)); (try (replace k6 := k6.fr f9; (try clear r_k6); have r_k6 := k6.cells)))
    | ((with_reducible refine gate_dst (N := 5) rfl ?_); refine wpList_alloc rfl _ rfl _ (pzero24 _) #[.int .i64 0, .int .i64 0, .int .i64 0, .int .i64 0, .int .i64 0, .int .i64 0, .int .i64 0] rfl ?_; intro g_k5 w9 hg_k5 k5 f9; have zf_k5 := f.size; have hl_k5 := k5.lt; have z9 := f9.size; replace f := f.trans f9; (try (replace k6 := k6.fr f9; (try clear r_k6); have r_k6 := k6.cells)); (try clear r_k5); have r_k5 := k5.cells)
    | ((with_reducible refine gate_store (p := 5) rfl ?_); refine wpList_bstore k5 rfl _ _ _ rfl 0 7 rfl (.agg #[.int .i64 p.seq, .int .i64 p.kind, .int .i64 p.frm, .int .i64 p.dst, .int .i64 p.sum, .int .i64 p.til, .int .i64 p.ver]) rfl #[.int .i64 p.seq, .int .i64 p.kind, .int .i64 p.frm, .int .i64 p.dst, .int .i64 p.sum, .int .i64 p.til, .int .i64 p.ver] rfl rfl psize24 (by simp) (by intro u hu; simp at hu; rcases hu with rfl | rfl | rfl | rfl | rfl | rfl | rfl <;> rfl) #[.int .i64 p.seq, .int .i64 p.kind, .int .i64 p.frm, .int .i64 p.dst, .int .i64 p.sum, .int .i64 p.til, .int .i64 p.ver] rfl ?_; intro w9 k9 c9; have z9 := c9.size; replace f := f.own c9 (fun q hq => by have := List.mem_singleton.1 hq; have := f.size; omega); (try (replace k6 := k6.chg c9 (fun hm => by have := List.mem_singleton.1 hm; omega); (try clear r_k6); have r_k6 := k6.cells)); replace k5 := k9; clear k9; (try clear r_k5); have r_k5 := k5.cells)
    | ((with_reducible refine gate_dst (N := 6) rfl ?_); refine wpList_alloc rfl _ rfl _ (pzero24 _) #[.int .i64 0, .int .i64 0, .int .i64 0, .int .i64 0, .int .i64 0, .int .i64 0, .int .i64 0] rfl ?_; intro g_k6 w9 hg_k6 k6 f9; have zf_k6 := f.size; have hl_k6 := k6.lt; have z9 := f9.size; replace f := f.trans f9; (try (replace k5 := k5.fr f9; (try clear r_k5); have r_k5 := k5.cells)); (try clear r_k6); have r_k6 := k6.cells)
    | ((with_reducible refine gate_store (p := 6) rfl ?_); refine wpList_bstore k6 rfl _ _ _ rfl 0 7 rfl (.agg #[.int .i64 q.seq, .int .i64 q.kind, .int .i64 q.frm, .int .i64 q.dst, .int .i64 q.sum, .int .i64 q.til, .int .i64 q.ver]) rfl #[.int .i64 q.seq, .int .i64 q.kind, .int .i64 q.frm, .int .i64 q.dst, .int .i64 q.sum, .int .i64 q.til, .int .i64 q.ver] rfl rfl psize24 (by simp) (by intro u hu; simp at hu; rcases hu with rfl | rfl | rfl | rfl | rfl | rfl | rfl <;> rfl) #[.int .i64 q.seq, .int .i64 q.kind, .int .i64 q.frm, .int .i64 q.dst, .int .i64 q.sum, .int .i64 q.til, .int .i64 q.ver] rfl ?_; intro w9 k9 c9; have z9 := c9.size; replace f := f.own c9 (fun q hq => by have := List.mem_singleton.1 hq; have := f.size; omega); (try (replace k5 := k5.chg c9 (fun hm => by have := List.mem_singleton.1 hm; omega); (try clear r_k5); have r_k5 := k5.cells)); replace k6 := k9; clear k9; (try clear r_k6); have r_k6 := k6.cells)
    | ((with_reducible refine gate_dst (N := 21) rfl ?_); refine wpList_bload k5 rfl _ _ rfl 0 7 rfl _ Tryd.underlying24 rfl psize24 (by simp) (Pk.cells p).toArray rfl ?_)
    | ((with_reducible refine gate_dst (N := 26) rfl ?_); refine wpList_bload k5 rfl _ _ rfl 0 7 rfl _ Tryd.underlying24 rfl psize24 (by simp) (Pk.cells p).toArray rfl ?_)
    | ((with_reducible refine gate_dst (N := 38) rfl ?_); refine wpList_bload k5 rfl _ _ rfl 0 7 rfl _ Tryd.underlying24 rfl psize24 (by simp) (Pk.cells p).toArray rfl ?_)
    | ((with_reducible refine gate_dst (N := 44) rfl ?_); refine wpList_bload k5 rfl _ _ rfl 0 7 rfl _ Tryd.underlying24 rfl psize24 (by simp) (Pk.cells p).toArray rfl ?_)
    | ((with_reducible refine gate_dst (N := 23) rfl ?_); refine wpList_bload k6 rfl _ _ rfl 0 7 rfl _ Tryd.underlying24 rfl psize24 (by simp) (Pk.cells q).toArray rfl ?_)
    | ((with_reducible refine gate_dst (N := 45) rfl ?_); refine wpList_bload k6 rfl _ _ rfl 0 7 rfl _ Tryd.underlying24 rfl psize24 (by simp) (Pk.cells q).toArray rfl ?_)
    | (go_at_call 10; (with_reducible refine (PacketText_p _ p).mono ?_); rintro e w9 ⟨rfl, f9⟩; have z9 := f9.size; replace f := f.trans f9; (try (replace k5 := k5.fr f9; (try clear r_k5); have r_k5 := k5.cells)); (try (replace k6 := k6.fr f9; (try clear r_k6); have r_k6 := k6.cells)))
    | (go_at_call 10; (with_reducible refine (PacketText_p _ q).mono ?_); rintro e w9 ⟨rfl, f9⟩; have z9 := f9.size; replace f := f.trans f9; (try (replace k5 := k5.fr f9; (try clear r_k5); have r_k5 := k5.cells)); (try (replace k6 := k6.fr f9; (try clear r_k6); have r_k6 := k6.cells)))
    | (go_at_call 11; (with_reducible refine (sPacketText_p _ p).mono ?_); rintro e w9 ⟨rfl, f9⟩; have z9 := f9.size; replace f := f.trans f9; (try (replace k5 := k5.fr f9; (try clear r_k5); have r_k5 := k5.cells)); (try (replace k6 := k6.fr f9; (try clear r_k6); have r_k6 := k6.cells)))
    | ((with_reducible refine gate_dst (N := 46) rfl ?_); refine aPkEq (p := p) (q := q) ?_))
  all_goals first | (go_ret; exact ⟨rfl, f⟩) | skip
  go_ret
  refine ⟨?_, f⟩
  have K : ((txtV p == txtV q) == decide (p = q)) = true := by first | exact one_key (by assumption) | (apply one_key; simp_all)
  exact congrArg (fun b => Ending.returned (.bool b)) K
end Go.Proofs.YtphojlkljlnfjaaDoor
