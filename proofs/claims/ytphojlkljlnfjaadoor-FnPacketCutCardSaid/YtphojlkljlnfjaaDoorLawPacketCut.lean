/- A text with a letter more or less is none. -/
import Derived.Test.YtphojlkljlnfjaaDoorLawPacketOne
import Derived.Test.YtphojlkljlnfjaaDoorLawPacketBack
import Derived.Test.YtphojlkljlnfjaaDoorTxtCut
import Derived.Test.YtphojlkljlnfjaaDoorOpenBytes
import Derived.Test.YtphojlkljlnfjaaDoorLaidDoor
namespace Go.Proofs.YtphojlkljlnfjaaDoor
set_option maxRecDepth 100000
set_option linter.unusedVariables false
set_option linter.unusedSimpArgs false
open Go.RowKit
def ShortRead (p : Pk) (w : World) : Ending → World → Prop := fun e w' => ∃ (q : Pk) (b : Bool), e = .returned (.tuple #[.agg q.cells.toArray, .bool b]) ∧ (b = true → q ≠ p) ∧ Fr w w'
theorem PacketRead_short (w : World) (p : Pk) (n : Nat) (h : ¬txtV p = []) (hn : n < (txtV p).length) {a : Addr} (L : Laid a w) : Calls Tryd.prog 12 #[.string ⟨((txtV p).take n).toArray⟩] w (ShortRead p w) := by
  have ho := txtV_ok h
  rw [txtV_yes ho] at hn ⊢
  exact (PacketRead_c w ((txt p).take n) L).mono fun e w' k => ⟨_, _, k.1, rd_short n ho hn, k.2⟩
theorem PacketRead_end (w : World) (p : Pk) (h : ¬txtV p = []) {a : Addr} (L : Laid a w) : Calls Tryd.prog 12 #[.string ⟨(txtV p ++ [32]).toArray⟩] w (Ret (.tuple #[.agg #[.int .i64 0, .int .i64 0, .int .i64 0, .int .i64 0, .int .i64 0, .int .i64 0, .int .i64 0], .bool false]) w) := by
  have k := PacketRead_c w (txtV p ++ [32]) L
  have ho := txtV_ok h
  rw [txtV_yes ho, rd_end ho] at k
  rw [txtV_yes ho]
  exact k
theorem PacketRead_ahead (w : World) (p : Pk) (h : ¬txtV p = []) {a : Addr} (L : Laid a w) : Calls Tryd.prog 12 #[.string ⟨(48 :: txtV p).toArray⟩] w (Ret (.tuple #[.agg #[.int .i64 0, .int .i64 0, .int .i64 0, .int .i64 0, .int .i64 0, .int .i64 0, .int .i64 0], .bool false]) w) := by
  have k := PacketRead_c w (48 :: txtV p) L
  have ho := txtV_ok h
  rw [txtV_yes ho, rd_ahead ho] at k
  rw [txtV_yes ho]
  exact k
theorem txtV_len (p : Pk) : (txtV p).length ≤ 20 := by
  cases e : okPk p with
  | true => rw [txtV_yes e]; exact (txt_len (okPk_small e)).2
  | false => rw [txtV_no e]; simp
theorem txtV_pos {p : Pk} (h : ¬txtV p = []) : 13 ≤ (txtV p).length := by rw [txtV_yes (txtV_ok h)]; exact (txt_len (okPk_small (txtV_ok h))).1
set_option maxHeartbeats 6400000 in
theorem FnPacketCut_c (w : World) (v0 : Value) (bs0 : List Int) (h0 : tByte.row w v0 bs0) {a : Addr} (L : Laid a w) : Calls Tryd.prog 3 #[v0] w (Ret (.bool true) w) := by
  have f := Fr.refl w
  have LD := Lib.hid L
  clear L
  obtain ⟨A0, c0, rfl⟩ := h0.val
  by_cases hbig : 1048576 < bs0.length
  · have hbb : decide ((1048576 : Int) < bs0.length) = true := decide_eq_true (by omega)
    go_enter Tryd.func3, Tryd.ntmps3
    go_wp2
    go_ret
    exact ⟨rfl, f⟩
  have hbb : decide ((1048576 : Int) < bs0.length) = false := decide_eq_false (by omega)
  clear hbig
  go_enter Tryd.func3, Tryd.ntmps3
  go_wp2_with (first
    | (go_at_call 9; (with_reducible refine (DrawPacketText_c _ _ bs0 (h0.fr f)).mono ?_); rintro e w9 ⟨p, rfl, hp, f9⟩; have z9 := f9.size; replace f := f.trans f9; (try (replace k3 := k3.fr f9; (try clear r_k3); have r_k3 := k3.cells)); (try (replace k5 := k5.fr f9; (try clear r_k5); have r_k5 := k5.cells)); (try (replace k7 := k7.fr f9; (try clear r_k7); have r_k7 := k7.cells)); (try (replace k9 := k9.fr f9; (try clear r_k9); have r_k9 := k9.cells)))
    | ((with_reducible refine gate_dst (N := 3) rfl ?_); refine wpList_alloc rfl _ rfl _ (pzero24 _) #[.int .i64 0, .int .i64 0, .int .i64 0, .int .i64 0, .int .i64 0, .int .i64 0, .int .i64 0] rfl ?_; intro g_k3 w9 hg_k3 k3 f9; have zf_k3 := f.size; have hl_k3 := k3.lt; have z9 := f9.size; replace f := f.trans f9; (try (replace k5 := k5.fr f9; (try clear r_k5); have r_k5 := k5.cells)); (try (replace k7 := k7.fr f9; (try clear r_k7); have r_k7 := k7.cells)); (try (replace k9 := k9.fr f9; (try clear r_k9); have r_k9 := k9.cells)); (try clear r_k3); have r_k3 := k3.cells)
    | ((with_reducible refine gate_store (p := 3) rfl ?_); refine wpList_bstore k3 rfl _ _ _ rfl 0 7 rfl (.agg #[.int .i64 p.seq, .int .i64 p.kind, .int .i64 p.frm, .int .i64 p.dst, .int .i64 p.sum, .int .i64 p.til, .int .i64 p.ver]) rfl #[.int .i64 p.seq, .int .i64 p.kind, .int .i64 p.frm, .int .i64 p.dst, .int .i64 p.sum, .int .i64 p.til, .int .i64 p.ver] rfl rfl psize24 (by simp) (by intro u hu; simp at hu; rcases hu with rfl | rfl | rfl | rfl | rfl | rfl | rfl <;> rfl) #[.int .i64 p.seq, .int .i64 p.kind, .int .i64 p.frm, .int .i64 p.dst, .int .i64 p.sum, .int .i64 p.til, .int .i64 p.ver] rfl ?_; intro w9 k9 c9; have z9 := c9.size; replace f := f.own c9 (fun q hq => by have := List.mem_singleton.1 hq; have := f.size; omega); (try (replace k5 := k5.chg c9 (fun hm => by have := List.mem_singleton.1 hm; omega); (try clear r_k5); have r_k5 := k5.cells)); (try (replace k7 := k7.chg c9 (fun hm => by have := List.mem_singleton.1 hm; omega); (try clear r_k7); have r_k7 := k7.cells)); (try (replace k9 := k9.chg c9 (fun hm => by have := List.mem_singleton.1 hm; omega); (try clear r_k9); have r_k9 := k9.cells)); replace k3 := k9; clear k9; (try clear r_k3); have r_k3 := k3.cells)
    | ((with_reducible refine gate_dst (N := 5) rfl ?_); refine wpList_alloc rfl _ rfl _ (pzero24 _) #[.int .i64 0, .int .i64 0, .int .i64 0, .int .i64 0, .int .i64 0, .int .i64 0, .int .i64 0] rfl ?_; intro g_k5 w9 hg_k5 k5 f9; have zf_k5 := f.size; have hl_k5 := k5.lt; have z9 := f9.size; replace f := f.trans f9; (try (replace k3 := k3.fr f9; (try clear r_k3); have r_k3 := k3.cells)); (try (replace k7 := k7.fr f9; (try clear r_k7); have r_k7 := k7.cells)); (try (replace k9 := k9.fr f9; (try clear r_k9); have r_k9 := k9.cells)); (try clear r_k5); have r_k5 := k5.cells)
    | ((with_reducible refine gate_store (p := 5) rfl ?_); refine wpList_bstore k5 rfl _ _ _ rfl 0 7 rfl (.agg #[.int .i64 q.seq, .int .i64 q.kind, .int .i64 q.frm, .int .i64 q.dst, .int .i64 q.sum, .int .i64 q.til, .int .i64 q.ver]) rfl #[.int .i64 q.seq, .int .i64 q.kind, .int .i64 q.frm, .int .i64 q.dst, .int .i64 q.sum, .int .i64 q.til, .int .i64 q.ver] rfl rfl psize24 (by simp) (by intro u hu; simp at hu; rcases hu with rfl | rfl | rfl | rfl | rfl | rfl | rfl <;> rfl) #[.int .i64 q.seq, .int .i64 q.kind, .int .i64 q.frm, .int .i64 q.dst, .int .i64 q.sum, .int .i64 q.til, .int .i64 q.ver] rfl ?_; intro w9 k9 c9; have z9 := c9.size; replace f := f.own c9 (fun q hq => by have := List.mem_singleton.1 hq; have := f.size; omega); (try (replace k3 := k3.chg c9 (fun hm => by have := List.mem_singleton.1 hm; omega); (try clear r_k3); have r_k3 := k3.cells)); (try (replace k7 := k7.chg c9 (fun hm => by have := List.mem_singleton.1 hm; omega); (try clear r_k7); have r_k7 := k7.cells)); (try (replace k9 := k9.chg c9 (fun hm => by have := List.mem_singleton.1 hm; omega); (try clear r_k9); have r_k9 := k9.cells)); replace k5 := k9; clear k9; (try clear r_k5); have r_k5 := k5.cells)
    | ((with_reducible refine gate_dst (N := 7) rfl ?_); refine wpList_alloc rfl _ rfl _ (pzero24 _) #[.int .i64 0, .int .i64 0, .int .i64 0, .int .i64 0, .int .i64 0, .int .i64 0, .int .i64 0] rfl ?_; intro g_k7 w9 hg_k7 k7 f9; have zf_k7 := f.size; have hl_k7 := k7.lt; have z9 := f9.size; replace f := f.trans f9; (try (replace k3 := k3.fr f9; (try clear r_k3); have r_k3 := k3.cells)); (try (replace k5 := k5.fr f9; (try clear r_k5); have r_k5 := k5.cells)); (try (replace k9 := k9.fr f9; (try clear r_k9); have r_k9 := k9.cells)); (try clear r_k7); have r_k7 := k7.cells)
    | ((with_reducible refine gate_store (p := 7) rfl ?_); refine wpList_bstore k7 rfl _ _ _ rfl 0 7 rfl (.agg #[.int .i64 0, .int .i64 0, .int .i64 0, .int .i64 0, .int .i64 0, .int .i64 0, .int .i64 0]) rfl #[.int .i64 0, .int .i64 0, .int .i64 0, .int .i64 0, .int .i64 0, .int .i64 0, .int .i64 0] rfl rfl psize24 (by simp) (by intro u hu; simp at hu; rcases hu with rfl | rfl | rfl | rfl | rfl | rfl | rfl <;> rfl) #[.int .i64 0, .int .i64 0, .int .i64 0, .int .i64 0, .int .i64 0, .int .i64 0, .int .i64 0] rfl ?_; intro w9 k9 c9; have z9 := c9.size; replace f := f.own c9 (fun q hq => by have := List.mem_singleton.1 hq; have := f.size; omega); (try (replace k3 := k3.chg c9 (fun hm => by have := List.mem_singleton.1 hm; omega); (try clear r_k3); have r_k3 := k3.cells)); (try (replace k5 := k5.chg c9 (fun hm => by have := List.mem_singleton.1 hm; omega); (try clear r_k5); have r_k5 := k5.cells)); (try (replace k9 := k9.chg c9 (fun hm => by have := List.mem_singleton.1 hm; omega); (try clear r_k9); have r_k9 := k9.cells)); replace k7 := k9; clear k9; (try clear r_k7); have r_k7 := k7.cells)
    | ((with_reducible refine gate_dst (N := 9) rfl ?_); refine wpList_alloc rfl _ rfl _ (pzero24 _) #[.int .i64 0, .int .i64 0, .int .i64 0, .int .i64 0, .int .i64 0, .int .i64 0, .int .i64 0] rfl ?_; intro g_k9 w9 hg_k9 k9 f9; have zf_k9 := f.size; have hl_k9 := k9.lt; have z9 := f9.size; replace f := f.trans f9; (try (replace k3 := k3.fr f9; (try clear r_k3); have r_k3 := k3.cells)); (try (replace k5 := k5.fr f9; (try clear r_k5); have r_k5 := k5.cells)); (try (replace k7 := k7.fr f9; (try clear r_k7); have r_k7 := k7.cells)); (try clear r_k9); have r_k9 := k9.cells)
    | ((with_reducible refine gate_store (p := 9) rfl ?_); refine wpList_bstore k9 rfl _ _ _ rfl 0 7 rfl (.agg #[.int .i64 0, .int .i64 0, .int .i64 0, .int .i64 0, .int .i64 0, .int .i64 0, .int .i64 0]) rfl #[.int .i64 0, .int .i64 0, .int .i64 0, .int .i64 0, .int .i64 0, .int .i64 0, .int .i64 0] rfl rfl psize24 (by simp) (by intro u hu; simp at hu; rcases hu with rfl | rfl | rfl | rfl | rfl | rfl | rfl <;> rfl) #[.int .i64 0, .int .i64 0, .int .i64 0, .int .i64 0, .int .i64 0, .int .i64 0, .int .i64 0] rfl ?_; intro w9 k9 c9; have z9 := c9.size; replace f := f.own c9 (fun q hq => by have := List.mem_singleton.1 hq; have := f.size; omega); (try (replace k3 := k3.chg c9 (fun hm => by have := List.mem_singleton.1 hm; omega); (try clear r_k3); have r_k3 := k3.cells)); (try (replace k5 := k5.chg c9 (fun hm => by have := List.mem_singleton.1 hm; omega); (try clear r_k5); have r_k5 := k5.cells)); (try (replace k7 := k7.chg c9 (fun hm => by have := List.mem_singleton.1 hm; omega); (try clear r_k7); have r_k7 := k7.cells)); replace k9 := k9; clear k9; (try clear r_k9); have r_k9 := k9.cells)
    | ((with_reducible refine gate_dst (N := 16) rfl ?_); refine wpList_bload k3 rfl _ _ rfl 0 7 rfl _ Tryd.underlying24 rfl psize24 (by simp) (Pk.cells p).toArray rfl ?_)
    | ((with_reducible refine gate_dst (N := 19) rfl ?_); refine wpList_bload k3 rfl _ _ rfl 0 7 rfl _ Tryd.underlying24 rfl psize24 (by simp) (Pk.cells p).toArray rfl ?_)
    | ((with_reducible refine gate_dst (N := 27) rfl ?_); refine wpList_bload k3 rfl _ _ rfl 0 7 rfl _ Tryd.underlying24 rfl psize24 (by simp) (Pk.cells p).toArray rfl ?_)
    | ((with_reducible refine gate_dst (N := 55) rfl ?_); refine wpList_bload k3 rfl _ _ rfl 0 7 rfl _ Tryd.underlying24 rfl psize24 (by simp) (Pk.cells p).toArray rfl ?_)
    | ((with_reducible refine gate_dst (N := 54) rfl ?_); refine wpList_bload k5 rfl _ _ rfl 0 7 rfl _ Tryd.underlying24 rfl psize24 (by simp) (Pk.cells q).toArray rfl ?_)
    | (go_at_call 10; (with_reducible refine (PacketText_p _ p).mono ?_); rintro e w9 ⟨rfl, f9⟩; have lw : IntKind.i64.wrap (((txtV p).length : Int) - 1) = ((txtV p).length : Int) - 1 := IntWalk.i64_in _ (by have := txtV_len p; omega); have z9 := f9.size; replace f := f.trans f9; (try (replace k3 := k3.fr f9; (try clear r_k3); have r_k3 := k3.cells)); (try (replace k5 := k5.fr f9; (try clear r_k5); have r_k5 := k5.cells)); (try (replace k7 := k7.fr f9; (try clear r_k7); have r_k7 := k7.cells)); (try (replace k9 := k9.fr f9; (try clear r_k9); have r_k9 := k9.cells)))
    | (go_at_call 11; (with_reducible refine (sPacketText_p _ p).mono ?_); rintro e w9 ⟨rfl, f9⟩; have z9 := f9.size; replace f := f.trans f9; (try (replace k3 := k3.fr f9; (try clear r_k3); have r_k3 := k3.cells)); (try (replace k5 := k5.fr f9; (try clear r_k5); have r_k5 := k5.cells)); (try (replace k7 := k7.fr f9; (try clear r_k7); have r_k7 := k7.cells)); (try (replace k9 := k9.fr f9; (try clear r_k9); have r_k9 := k9.cells)))
    | ((with_reducible refine gate_dst (N := 35) rfl ?_); go_loud (refine aTake (l := txtV p) (n := (txtV p).length - 1) (m := ((txtV p).length : Int) - 1) ?_ (by have := txtV_pos (p := p) (by first | assumption | simp_all); omega) (by omega)))
    | ((with_reducible refine gate_dst (N := 41) rfl ?_); go_loud (refine aCat (l1 := txtV p) (l2 := [32]) ?_ (by have := txtV_len p; simp; omega)))
    | ((with_reducible refine gate_dst (N := 47) rfl ?_); go_loud (refine aCat (l1 := [48]) (l2 := txtV p) ?_ (by have := txtV_len p; simp; omega)))
    | (go_at_call 12; (with_reducible refine (PacketRead_short _ p ((txtV p).length - 1) (by first | assumption | simp_all) (by have := txtV_pos (p := p) (by first | assumption | simp_all); omega) (LD.out.fr f)).mono ?_); rintro e w9 ⟨q, b, rfl, hb, f9⟩; have z9 := f9.size; replace f := f.trans f9; (try (replace k3 := k3.fr f9; (try clear r_k3); have r_k3 := k3.cells)); (try (replace k5 := k5.fr f9; (try clear r_k5); have r_k5 := k5.cells)); (try (replace k7 := k7.fr f9; (try clear r_k7); have r_k7 := k7.cells)); (try (replace k9 := k9.fr f9; (try clear r_k9); have r_k9 := k9.cells)))
    | (go_at_call 12; (with_reducible refine (PacketRead_end _ p (by first | assumption | simp_all) (LD.out.fr f)).mono ?_); rintro e w9 ⟨rfl, f9⟩; have z9 := f9.size; replace f := f.trans f9; (try (replace k3 := k3.fr f9; (try clear r_k3); have r_k3 := k3.cells)); (try (replace k5 := k5.fr f9; (try clear r_k5); have r_k5 := k5.cells)); (try (replace k7 := k7.fr f9; (try clear r_k7); have r_k7 := k7.cells)); (try (replace k9 := k9.fr f9; (try clear r_k9); have r_k9 := k9.cells)))
    | (go_at_call 12; (with_reducible refine (PacketRead_ahead _ p (by first | assumption | simp_all) (LD.out.fr f)).mono ?_); rintro e w9 ⟨rfl, f9⟩; have z9 := f9.size; replace f := f.trans f9; (try (replace k3 := k3.fr f9; (try clear r_k3); have r_k3 := k3.cells)); (try (replace k5 := k5.fr f9; (try clear r_k5); have r_k5 := k5.cells)); (try (replace k7 := k7.fr f9; (try clear r_k7); have r_k7 := k7.cells)); (try (replace k9 := k9.fr f9; (try clear r_k9); have r_k9 := k9.cells))))
  all_goals first | (go_ret; exact ⟨rfl, f⟩) | skip
  all_goals exact absurd ((Pk.eq_iff q p).2 ⟨by assumption, by assumption, by assumption, by assumption, by assumption, by assumption, by assumption⟩) (hb (by assumption))
end Go.Proofs.YtphojlkljlnfjaaDoor
