/- Packets that the reference draws. -/
import Derived.Test.YtphojlkljlnfjaaDoorDraw
import Derived.Test.YtphojlkljlnfjaaDoorPk
namespace Go.Proofs.YtphojlkljlnfjaaDoor
set_option maxRecDepth 100000
set_option linter.unusedVariables false
set_option linter.unusedSimpArgs false
open Go.RowKit
/-- A reader is opened. -/
def Opened (w : World) : Ending → World → Prop := fun e w' => ∃ g v bs, e = .returned (.pointer (some ⟨g, 0, none⟩)) ∧ w.heap.size ≤ g ∧ Box w' g 63 #[v, .int .i64 (0 : Nat)] ∧ tByte.row w v bs ∧ bs.length ≤ 2000 ∧ Fr w w'
theorem row_take {α : Type} {d : Ty α} {w : World} {A : Option Addr} {n c : Nat} {xs : List α} (h : d.row w (.slice A n c) xs) (k : Nat) (hk : k ≤ xs.length) : d.row w (.slice A k c) (xs.take k) := by
  obtain ⟨A', c', e, ⟨h1, h0⟩, h2, h3⟩ := h
  simp only [Value.slice.injEq] at e
  obtain ⟨rfl, rfl, rfl⟩ := e
  refine ⟨A, c, by rw [List.length_take]; congr 1; omega, ⟨by rw [List.length_take]; omega, h0⟩, by rw [List.length_take]; omega, fun i hi => ?_⟩
  have hi2 : i < xs.length := by rw [List.length_take] at hi; omega
  rw [List.getElem_take]
  exact h3 i hi2
theorem drow_le {α : Type} {d : Ty α} {w : World} {A : Option Addr} {n c : Nat} {xs : List α} (h : d.row w (.slice A n c) xs) : n = xs.length ∧ n ≤ c := by
  obtain ⟨A', c', e, h1, h2, h3⟩ := h
  simp only [Value.slice.injEq] at e
  obtain ⟨rfl, rfl, rfl⟩ := e
  exact ⟨rfl, h1.1⟩
set_option maxHeartbeats 1600000 in
theorem l6Open_c (w : World) (v : Value) (bs : List Int) (hr : tByte.row w v bs) : Calls Tryd.prog 20 #[v] w (Opened w) := by
  obtain ⟨A1, c1, rfl⟩ := hr.val
  have hm := hr.le
  have hcap := (drow_le hr).2
  by_cases h0 : 2000 < bs.length
  · obtain ⟨ad, rfl, _⟩ := row_byte_at hr 0 (by omega)
    go_enter Tryd.func20, Tryd.ntmps20
    go_wp2_with ((with_reducible refine gate_dst (N := 10) rfl ?_); refine wpList_box rfl _ _ rfl #[.slice (some ad) 2000 c1, .int .i64 (0 : Nat)] rfl ?_; intro g w9 hg k f9)
    go_ret
    exact ⟨g, _, bs.take 2000, rfl, hg, k, row_take hr 2000 (by omega), by rw [List.length_take]; omega, f9⟩
  · go_enter Tryd.func20, Tryd.ntmps20
    go_wp2_with ((with_reducible refine gate_dst (N := 10) rfl ?_); refine wpList_box rfl _ _ rfl #[.slice A1 bs.length c1, .int .i64 (0 : Nat)] rfl ?_; intro g w9 hg k f9)
    go_ret
    exact ⟨g, _, bs, rfl, hg, k, hr, by omega, f9⟩
/-- A packet is drawn. -/
def PickedPk (g : Nat) (v : Value) (p : Nat) (w : World) : Ending → World → Prop := fun e w' => ∃ (q : Pk) (p' : Nat), e = .returned (.agg q.cells.toArray) ∧ q.ok64 ∧ p' ≤ p + 20 ∧ Box w' g 63 #[v, .int .i64 p'] ∧ Chg [g] w w'
set_option maxHeartbeats 3200000 in
theorem l71Packet_c (w0 w : World) (g : Nat) (v : Value) (bs : List Int) (p : Nat) (kr : Box w g 63 #[v, .int .i64 p]) (f0 : Fr w0 w) (hg : w0.heap.size ≤ g) (hr : tByte.row w0 v bs) (hl : bs.length ≤ 2000) (hp : p ≤ 900000) :
    Calls Tryd.prog 19 #[.pointer (some ⟨g, 0, none⟩)] w (PickedPk g v p w) := by
  have f := Chg.refl [g] w
  have hgl := kr.lt
  go_enter Tryd.func19, Tryd.ntmps19
  go_wp2_with (first
    | (go_at_call 32; (with_reducible refine (pick_c w0 _ g v bs _ _ kr f0 hg hr hl (by omega) (by omega) (by omega)).mono ?_); rintro e w9 ⟨_, rfl, _, _, k9, c9⟩; have z9 := c9.size; replace kr := k9; clear k9; replace f0 := f0.own c9 (fun q hq => by have := List.mem_singleton.1 hq; omega); replace f := f.trans c9 (fun q hq => .inl hq); (try replace k2 := k2.chg c9 (fun hm => by have := List.mem_singleton.1 hm; omega)); (try replace k3 := k3.chg c9 (fun hm => by have := List.mem_singleton.1 hm; omega)); skip)
    | ((with_reducible refine gate_dst (N := 2) rfl ?_); refine wpList_alloc rfl _ rfl _ (pzero24 _) #[.int .i64 0, .int .i64 0, .int .i64 0, .int .i64 0, .int .i64 0, .int .i64 0, .int .i64 0] rfl ?_; intro g_k2 w9 hg_k2 k2 f9; have hz_k2 := f0.size; have hy_k2 := f.size; have hl_k2 := k2.lt; have z9 := f9.size; replace kr := kr.fr f9; replace f0 := f0.trans f9; replace f := f.fr f9; (try replace k3 := k3.fr f9); skip)
    | ((with_reducible refine gate_dst (N := 3) rfl ?_); refine wpList_alloc rfl _ rfl _ (pzero24 _) #[.int .i64 0, .int .i64 0, .int .i64 0, .int .i64 0, .int .i64 0, .int .i64 0, .int .i64 0] rfl ?_; intro g_k3 w9 hg_k3 k3 f9; have hz_k3 := f0.size; have hy_k3 := f.size; have hl_k3 := k3.lt; have z9 := f9.size; replace kr := kr.fr f9; replace f0 := f0.trans f9; replace f := f.fr f9; (try replace k2 := k2.fr f9); skip)
    | ((with_reducible refine gate_store (p := 3) rfl ?_); refine wpList_bstore k3 rfl _ _ _ rfl 0 7 rfl (.agg #[.int .i64 _, .int .i64 _, .int .i64 _, .int .i64 _, .int .i64 _, .int .i64 _, .int .i64 _]) rfl #[.int .i64 _, .int .i64 _, .int .i64 _, .int .i64 _, .int .i64 _, .int .i64 _, .int .i64 _] rfl rfl psize24 (by simp) (by intro u hu; simp at hu; rcases hu with rfl | rfl | rfl | rfl | rfl | rfl | rfl <;> rfl) #[.int .i64 _, .int .i64 _, .int .i64 _, .int .i64 _, .int .i64 _, .int .i64 _, .int .i64 _] rfl ?_; intro w9 k9 c9; have z9 := c9.size; replace kr := kr.chg c9 (fun hm => by have := List.mem_singleton.1 hm; omega); replace f0 := f0.own c9 (fun q hq => by have := List.mem_singleton.1 hq; omega); replace f := f.trans c9 (fun q hq => .inr (by have := List.mem_singleton.1 hq; omega)); (try replace k2 := k2.chg c9 (fun hm => by have := List.mem_singleton.1 hm; omega)); replace k3 := k9; clear k9)
    | ((with_reducible refine gate_store (p := 32) rfl ?_); refine wpList_bstore1 k3 rfl _ _ _ rfl 0 rfl (.int .i64 _) rfl rfl dsize3 (by simp) #[.int .i64 _, .int .i64 _, .int .i64 _, .int .i64 _, .int .i64 _, .int .i64 _, .int .i64 _] rfl ?_; intro w9 k9 c9; have z9 := c9.size; replace kr := kr.chg c9 (fun hm => by have := List.mem_singleton.1 hm; omega); replace f0 := f0.own c9 (fun q hq => by have := List.mem_singleton.1 hq; omega); replace f := f.trans c9 (fun q hq => .inr (by have := List.mem_singleton.1 hq; omega)); (try replace k2 := k2.chg c9 (fun hm => by have := List.mem_singleton.1 hm; omega)); replace k3 := k9; clear k9)
    | ((with_reducible refine gate_store (p := 40) rfl ?_); refine wpList_bstore1 k3 rfl _ _ _ rfl 3 rfl (.int .i64 _) rfl rfl dsize3 (by simp) #[.int .i64 _, .int .i64 _, .int .i64 _, .int .i64 _, .int .i64 _, .int .i64 _, .int .i64 _] rfl ?_; intro w9 k9 c9; have z9 := c9.size; replace kr := kr.chg c9 (fun hm => by have := List.mem_singleton.1 hm; omega); replace f0 := f0.own c9 (fun q hq => by have := List.mem_singleton.1 hq; omega); replace f := f.trans c9 (fun q hq => .inr (by have := List.mem_singleton.1 hq; omega)); (try replace k2 := k2.chg c9 (fun hm => by have := List.mem_singleton.1 hm; omega)); replace k3 := k9; clear k9)
    | ((with_reducible refine gate_store (p := 46) rfl ?_); refine wpList_bstore1 k3 rfl _ _ _ rfl 4 rfl (.int .i64 _) rfl rfl dsize3 (by simp) #[.int .i64 _, .int .i64 _, .int .i64 _, .int .i64 _, .int .i64 _, .int .i64 _, .int .i64 _] rfl ?_; intro w9 k9 c9; have z9 := c9.size; replace kr := kr.chg c9 (fun hm => by have := List.mem_singleton.1 hm; omega); replace f0 := f0.own c9 (fun q hq => by have := List.mem_singleton.1 hq; omega); replace f := f.trans c9 (fun q hq => .inr (by have := List.mem_singleton.1 hq; omega)); (try replace k2 := k2.chg c9 (fun hm => by have := List.mem_singleton.1 hm; omega)); replace k3 := k9; clear k9)
    | ((with_reducible refine gate_store (p := 51) rfl ?_); refine wpList_bstore1 k3 rfl _ _ _ rfl 5 rfl (.int .i64 _) rfl rfl dsize3 (by simp) #[.int .i64 _, .int .i64 _, .int .i64 _, .int .i64 _, .int .i64 _, .int .i64 _, .int .i64 _] rfl ?_; intro w9 k9 c9; have z9 := c9.size; replace kr := kr.chg c9 (fun hm => by have := List.mem_singleton.1 hm; omega); replace f0 := f0.own c9 (fun q hq => by have := List.mem_singleton.1 hq; omega); replace f := f.trans c9 (fun q hq => .inr (by have := List.mem_singleton.1 hq; omega)); (try replace k2 := k2.chg c9 (fun hm => by have := List.mem_singleton.1 hm; omega)); replace k3 := k9; clear k9)
    | ((with_reducible refine gate_store (p := 56) rfl ?_); refine wpList_bstore1 k3 rfl _ _ _ rfl 6 rfl (.int .i64 _) rfl rfl dsize3 (by simp) #[.int .i64 _, .int .i64 _, .int .i64 _, .int .i64 _, .int .i64 _, .int .i64 _, .int .i64 _] rfl ?_; intro w9 k9 c9; have z9 := c9.size; replace kr := kr.chg c9 (fun hm => by have := List.mem_singleton.1 hm; omega); replace f0 := f0.own c9 (fun q hq => by have := List.mem_singleton.1 hq; omega); replace f := f.trans c9 (fun q hq => .inr (by have := List.mem_singleton.1 hq; omega)); (try replace k2 := k2.chg c9 (fun hm => by have := List.mem_singleton.1 hm; omega)); replace k3 := k9; clear k9)
    | ((with_reducible refine gate_dst (N := 57) rfl ?_); refine wpList_bload k3 rfl _ _ rfl 0 7 rfl _ Tryd.underlying24 rfl psize24 (by simp) #[.int .i64 _, .int .i64 _, .int .i64 _, .int .i64 _, .int .i64 _, .int .i64 _, .int .i64 _] rfl ?_)
    | ((with_reducible refine gate_store (p := 2) rfl ?_); refine wpList_bstore k2 rfl _ _ _ rfl 0 7 rfl (.agg #[.int .i64 _, .int .i64 _, .int .i64 _, .int .i64 _, .int .i64 _, .int .i64 _, .int .i64 _]) rfl #[.int .i64 _, .int .i64 _, .int .i64 _, .int .i64 _, .int .i64 _, .int .i64 _, .int .i64 _] rfl rfl psize24 (by simp) (by intro u hu; simp at hu; rcases hu with rfl | rfl | rfl | rfl | rfl | rfl | rfl <;> rfl) #[.int .i64 _, .int .i64 _, .int .i64 _, .int .i64 _, .int .i64 _, .int .i64 _, .int .i64 _] rfl ?_; intro w9 k9 c9; have z9 := c9.size; replace kr := kr.chg c9 (fun hm => by have := List.mem_singleton.1 hm; omega); replace f0 := f0.own c9 (fun q hq => by have := List.mem_singleton.1 hq; omega); replace f := f.trans c9 (fun q hq => .inr (by have := List.mem_singleton.1 hq; omega)); (try replace k3 := k3.chg c9 (fun hm => by have := List.mem_singleton.1 hm; omega)); replace k2 := k9; clear k9))
  all_goals
    exact bodyPost_ret (v := .agg #[.int .i64 _, .int .i64 _, .int .i64 _, .int .i64 _, .int .i64 _, .int .i64 _, .int .i64 _]) (results_cell_row rfl _ _ g_k2 _ _ _ _ rfl k2.blk Tryd.underlying24 rfl psize24) rfl ⟨⟨_, _, _, _, _, _, _⟩, _, rfl, ⟨by simp only []; omega, by simp only []; omega, by simp only []; omega, by simp only []; omega, by simp only []; omega, by simp only []; omega, by simp only []; omega⟩, by omega, kr, f⟩
end Go.Proofs.YtphojlkljlnfjaaDoor
