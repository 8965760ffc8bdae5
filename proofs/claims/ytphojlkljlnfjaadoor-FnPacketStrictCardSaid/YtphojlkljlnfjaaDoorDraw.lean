/- The reference's reader of codes: how it is opened, and what it draws. -/
import Derived.Test.YtphojlkljlnfjaaDoorProg
import Derived.Test.YtphojlkljlnfjaaDoorBase
import Derived.RegionTactic
import Derived.Deep.QuietTactic
import Derived.BigQuiet
import Derived.Laws.BitsLemmas
namespace Go.Proofs.YtphojlkljlnfjaaDoor
set_option maxRecDepth 100000
set_option linter.unusedVariables false
set_option linter.unusedSimpArgs false
open Go.RowKit

def tByte : Ty Int where
  sz := 1
  rd := fun _ x cs => cs = [.int .u8 x] ∧ 0 ≤ x ∧ x ≤ 255
  own := fun _ x cs F => (cs = [.int .u8 x] ∧ 0 ≤ x ∧ x ≤ 255) ∧ F = []
  len := fun h => by rw [h.1]; rfl
  fr := fun _ h => h
  own_rd := fun h => h.1
  own_lt := fun h g hg => by rw [h.2] at hg; cases hg
  keep := fun h _ => h
  one := fun h u hu => by rw [h.1.1] at hu; rw [List.mem_singleton.1 hu]; rfl
theorem row_byte_at {w : World} {A : Option Addr} {n c : Nat} {xs : List Int} (h : tByte.row w (.slice A n c) xs) (k : Nat) (hk : k < xs.length) : ∃ ad, A = some ad ∧ w.cell? (ad.add k) = some (.int .u8 xs[k]) ∧ 0 ≤ xs[k] ∧ xs[k] ≤ 255 := by
  obtain ⟨A', c', e, h1, h2, h3⟩ := h
  obtain ⟨ad, cs, e1, hr, hc⟩ := h3 k hk
  cases e
  subst e1
  obtain ⟨h5, h6, h7⟩ : cs = [.int .u8 xs[k]] ∧ 0 ≤ xs[k] ∧ xs[k] ≤ 255 := hr
  subst h5
  refine ⟨ad, rfl, ?_, h6, h7⟩
  simpa [tByte] using hc 0 Nat.zero_lt_one
theorem xor_nat (a b : Nat) (ha : a < 1000000000000) (hb : b < 1000000000000) : ∃ c : Nat, bits .xor .i64 (a : Int) (b : Int) = (c : Int) := by
  have hx : a ^^^ b < 2 ^ 62 := Nat.xor_lt_two_pow (by omega) (by omega)
  have h1 : (BitVec.ofInt 64 (a : Int)).toNat = a := by
    rw [BitVec.ofInt_natCast, BitVec.toNat_ofNat]; exact Nat.mod_eq_of_lt (by omega)
  have h2 : (BitVec.ofInt 64 (b : Int)).toNat = b := by
    rw [BitVec.ofInt_natCast, BitVec.toNat_ofNat]; exact Nat.mod_eq_of_lt (by omega)
  refine ⟨a ^^^ b, ?_⟩
  show IntKind.i64.wrap ((BitVec.ofInt 64 (a : Int) ^^^ BitVec.ofInt 64 (b : Int)).toNat : Int) = _
  rw [BitVec.toNat_xor, h1, h2, IntWalk.i64_in]
  omega
/-- The number that is drawn past the code's end. -/
theorem pick_num (E D n : Int) (h1 : 0 ≤ E) (h2 : E ≤ 100000000000) (h3 : 0 ≤ D) (h4 : D ≤ 1000000) (hn : 1 ≤ n) :
    0 ≤ (bits .xor .i64 (wrap64 (E + wrap64 (wrap64 D * 53))) (wrap64 ((wrap64 (E + wrap64 (wrap64 D * 53))).tdiv 64))).tmod n ∧
      (bits .xor .i64 (wrap64 (E + wrap64 (wrap64 D * 53))) (wrap64 ((wrap64 (E + wrap64 (wrap64 D * 53))).tdiv 64))).tmod n < n := by
  rw [IntWalk.wrap64_in D (by omega), IntWalk.wrap64_in (D * 53) (by omega), IntWalk.wrap64_in (E + D * 53) (by omega)]
  obtain ⟨X, hX⟩ : ∃ X : Nat, E + D * 53 = (X : Int) := ⟨(E + D * 53).toNat, by omega⟩
  rw [hX]
  have hd : ((X : Int).tdiv 64) = ((X / 64 : Nat) : Int) := by
    rw [Int.tdiv_eq_ediv_of_nonneg (by omega)]
    omega
  rw [hd, IntWalk.wrap64_in _ (by omega)]
  obtain ⟨c, hc⟩ := xor_nat X (X / 64) (by omega) (by omega)
  rw [hc, Int.tmod_eq_emod_of_nonneg (by omega)]
  exact ⟨Int.emod_nonneg _ (by omega), Int.emod_lt_of_pos _ (by omega)⟩
/-- A draw's end. -/
def Picked (g : Nat) (v : Value) (p : Nat) (n : Int) (w : World) : Ending → World → Prop := fun e w' => ∃ x : Int, e = .returned (.int .i64 x) ∧ 0 ≤ x ∧ x < n ∧ Box w' g 63 #[v, .int .i64 (p + 1 : Nat)] ∧ Chg [g] w w'
theorem size63 : (Tryd.prog.info? 63).map (·.size) = some 2 := by kernel_rfl
theorem dsize3 : (Tryd.prog.info? 3).map (·.size) = some 1 := by kernel_rfl
set_option maxHeartbeats 1600000 in
theorem pick_c (w0 w : World) (g : Nat) (v : Value) (bs : List Int) (p : Nat) (n : Int) (k1 : Box w g 63 #[v, .int .i64 p]) (f0 : Fr w0 w) (hg : w0.heap.size ≤ g) (hr : tByte.row w0 v bs) (hl : bs.length ≤ 2000) (hp : p ≤ 1000000) (hn : 1 ≤ n) (hn2 : n ≤ 1000000) :
    Calls Tryd.prog 32 #[.pointer (some ⟨g, 0, none⟩), .int .i64 n] w (Picked g v p n w) := by
  obtain ⟨A1, c1, rfl⟩ := hr.val
  have hm := hr.le
  have r_k1 := k1.cells
  by_cases h0 : bs.length = 0
  · go_enter Tryd.func32, Tryd.ntmps32
    go_wp2_with ((with_reducible refine gate_store (p := 14) rfl ?_); refine wpList_bstore1 k1 rfl _ _ _ rfl 1 rfl (.int .i64 (p + 1 : Nat)) (by first | rfl | (go_simp; omega)) rfl dsize3 (by simp) #[.slice A1 bs.length c1, .int .i64 (p + 1 : Nat)] rfl ?_; intro w9 k9 c9; clear r_k1; have r_k1 := k9.cells; have f9 := f0.own c9 (fun q hq => by rw [List.mem_singleton.1 hq]; exact hg))
    go_ret
    exact ⟨0, rfl, by omega, by omega, k9, c9⟩
  · have hnz : ((bs.length : Int) == 0) = false := by simp; exact fun h => h0 (by simp [h])
    have hnn : decide (n < 1) = false := decide_eq_false (by omega)
    by_cases h1 : p < bs.length
    · obtain ⟨ad, rfl, hc, x0, x1⟩ := row_byte_at hr p h1
      go_enter Tryd.func32, Tryd.ntmps32
      go_wp2_with ((with_reducible refine gate_store (p := 14) rfl ?_); refine wpList_bstore1 k1 rfl _ _ _ rfl 1 rfl (.int .i64 (p + 1 : Nat)) (by first | rfl | (go_simp; omega)) rfl dsize3 (by simp) #[.slice (some ad) bs.length c1, .int .i64 (p + 1 : Nat)] rfl ?_; intro w9 k9 c9; clear r_k1; have r_k1 := k9.cells; have f9 := f0.own c9 (fun q hq => by rw [List.mem_singleton.1 hq]; exact hg); have hc9 := f9.cell hc)
      go_ret
      exact ⟨bs[p] % n, rfl, Int.emod_nonneg _ (by omega), Int.emod_lt_of_pos _ (by omega), k9, c9⟩
    · go_enter Tryd.func32, Tryd.ntmps32
      have q1 : p % bs.length < bs.length := Nat.mod_lt _ (by omega)
      have q2 : (p * 7 + 3) % bs.length < bs.length := Nat.mod_lt _ (by omega)
      obtain ⟨ad, rfl, hc1, x0, x1⟩ := row_byte_at hr _ q1
      obtain ⟨ad', e', hc2, y0, y1⟩ := row_byte_at hr _ q2
      cases e'
      have i1 : 0 ≤ (p : Int) % (bs.length : Int) := Int.emod_nonneg _ (by omega)
      have i2 : (p : Int) % (bs.length : Int) < bs.length := Int.emod_lt_of_pos _ (by omega)
      have i3 : ((p : Int) % (bs.length : Int)).toNat = p % bs.length := by rw [← Int.natCast_emod]; exact Int.toNat_natCast _
      have j1 : 0 ≤ ((p : Int) * 7 + 3) % (bs.length : Int) := Int.emod_nonneg _ (by omega)
      have j2 : ((p : Int) * 7 + 3) % (bs.length : Int) < bs.length := Int.emod_lt_of_pos _ (by omega)
      have j3 : (((p : Int) * 7 + 3) % (bs.length : Int)).toNat = (p * 7 + 3) % bs.length := by rw [show ((p : Int) * 7 + 3) = ((p * 7 + 3 : Nat) : Int) by omega, ← Int.natCast_emod]; exact Int.toNat_natCast _
      generalize bs[p % bs.length] = b1 at *
      generalize bs[(p * 7 + 3) % bs.length] = b2 at *
      go_wp2_with ((with_reducible refine gate_store (p := 14) rfl ?_); refine wpList_bstore1 k1 rfl _ _ _ rfl 1 rfl (.int .i64 (p + 1 : Nat)) (by first | rfl | (go_simp; omega)) rfl dsize3 (by simp) #[.slice (some ad) bs.length c1, .int .i64 (p + 1 : Nat)] rfl ?_; intro w9 k9 c9; clear r_k1; have r_k1 := k9.cells; have f9 := f0.own c9 (fun q hq => by rw [List.mem_singleton.1 hq]; exact hg); have hd1 := f9.cell hc1; have hd2 := f9.cell hc2)
      go_quiet (fail)
      go_wp2
      go_ret
      have hD1 : 0 ≤ (p : Int) / (bs.length : Int) := Int.ediv_nonneg (by omega) (by omega)
      have hD2 : (p : Int) / (bs.length : Int) ≤ 1000000 := by
        have := Int.ediv_le_self (bs.length : Int) (show 0 ≤ (p : Int) by omega)
        omega
      obtain ⟨u1, u2⟩ := pick_num (b1 * 131 + b2 * 1117 + (p : Int) * 29) ((p : Int) / (bs.length : Int)) n (by omega) (by omega) hD1 hD2 hn
      exact ⟨_, rfl, u1, u2, ⟨k9.blk⟩, c9.drewN _⟩
end Go.Proofs.YtphojlkljlnfjaaDoor
