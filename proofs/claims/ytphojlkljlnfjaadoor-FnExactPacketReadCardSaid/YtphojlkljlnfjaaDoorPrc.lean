/- The library's functions that packetParse calls, at a short text. -/
import Derived.Test.YtphojlkljlnfjaaDoorPt
import Derived.Test.YtphojlkljlnfjaaDoorIs
namespace Go.Proofs.YtphojlkljlnfjaaDoor
set_option maxRecDepth 100000
set_option linter.unusedVariables false
set_option linter.unusedSimpArgs false
open Go.RowKit
/-- What the package's variables hold. -/
structure Laid (a : Addr) (w : World) : Prop where
  e0 : w.cell? ⟨0, 0, none⟩ = some (.iface 120 (.pointer (some a)))
  e2 : ∃ t v, w.cell? ⟨2, 0, none⟩ = some (.iface t v)
  e3 : ∃ t v, w.cell? ⟨3, 0, none⟩ = some (.iface t v)
  ml : ∃ m, w.cell? ⟨4, 0, none⟩ = some (.int .i64 m)
theorem Laid.fr {a : Addr} {w w' : World} (h : Laid a w) (f : Fr w w') : Laid a w' := by
  obtain ⟨h0, ⟨t2, v2, h2⟩, ⟨t3, v3, h3⟩, ⟨m, h4⟩⟩ := h
  exact ⟨f.cell h0, ⟨t2, v2, f.cell h2⟩, ⟨t3, v3, f.cell h3⟩, ⟨m, f.cell h4⟩⟩
theorem splitB_cut (s : List UInt8) : (Lib.splitB ⟨#[32]⟩ 0 (Lib.countB ⟨s.toArray⟩ ⟨#[32]⟩) ⟨s.toArray⟩).map Value.string = (cutA [] s).map fun l => .string ⟨l.toArray⟩ := by
  have h := Lib.splitB_data ⟨#[32]⟩ 0 (Lib.countB ⟨s.toArray⟩ ⟨#[32]⟩) ⟨s.toArray⟩
  have h2 : (Lib.splitB ⟨#[32]⟩ 0 (Lib.countB ⟨s.toArray⟩ ⟨#[32]⟩) ⟨s.toArray⟩).map (·.data.toList) = cutA [] s := h.trans (split_cutA _ s (Nat.le_refl _))
  rw [← h2, List.map_map]
  refine List.map_congr_left fun b _ => ?_
  obtain ⟨⟨l⟩⟩ := b
  rfl
theorem Split_c (w : World) (s : List UInt8) (hl : s.length ≤ 24) {a : Addr} (L : Laid a w) (n : Nat) (xs : List Value) (hn : (cutA [] s).length = n) (hx : ((cutA [] s).map fun l => Value.string ⟨l.toArray⟩) = xs) :
    Calls Tryd.prog 39 #[.string ⟨s.toArray⟩, .string ⟨#[32]⟩] w fun e w' => ∃ g, e = .returned (.slice (some ⟨g, 0, none⟩) n n) ∧ (aBox g 9 n xs).ok w' ∧ w.heap.size ≤ g ∧ Fr w w' := by
  obtain ⟨m, hm⟩ := L.ml
  subst hn hx
  have hc : Lib.countB ⟨s.toArray⟩ ⟨#[32]⟩ + 1 = (cutA [] s).length := split_count s
  refine (Tryd.strings_Split ⟨s.toArray⟩ ⟨#[32]⟩ m w (by simp [ByteArray.size]; omega) hm (by decide)).mono fun e w' h => ?_
  obtain ⟨rfl, rfl⟩ := h
  rw [splitB_cut, hc]
  exact ⟨w.heap.size, rfl, ⟨⟨heap_alloc_new w _⟩, by simp⟩, Nat.le_refl _, (Fr.refl w).alloc _⟩
theorem Fr.freeze0 {a b : World} (h : Fr a b) (p : Addr) (hp : a.heap.size ≤ p.block) : Fr a (b.freeze p 1) := by
  refine ⟨h.os, h.tape, h.output, by have := h.size; simp [World.freeze]; omega, fun k hk hF => ?_⟩
  have hne : ¬ p.block = k := by omega
  rw [← h.block k hk hF]
  simp [World.freeze, Array.getElem?_modify, hne]
theorem Fr.bytes (w : World) (e : TypeId) (t : ByteArray) : Fr w (Lib.bytesWorld w e t) := by
  unfold Lib.bytesWorld
  exact Fr.freeze0 (((Fr.refl w).drew).alloc _) _ (Nat.le_refl _)
theorem Atoi_ok (w : World) (l : List UInt8) (hl : l.length ≤ 24) (v : Int) (h : Lib.atoiAll l = .ok v) : Calls Tryd.prog 40 #[.string ⟨l.toArray⟩] w fun e w' => e = .returned (.tuple #[.int .i64 v, .nilIface]) ∧ Fr w w' := by
  refine (Tryd.strconv_Atoi_ok ⟨l.toArray⟩ (by simp [ByteArray.size]; omega) v h w).mono fun e w' k => ?_
  obtain ⟨rfl, rfl | ⟨t, rfl⟩⟩ := k
  · exact ⟨rfl, Fr.refl _⟩
  · exact ⟨rfl, Fr.bytes w _ t⟩
theorem Atoi_bad (w : World) (l : List UInt8) (hl : l.length ≤ 24) (h : ∀ v, Lib.atoiAll l ≠ .ok v) {a : Addr} (L : Laid a w) : Calls Tryd.prog 40 #[.string ⟨l.toArray⟩] w fun e w' => ∃ n N, e = .returned (.tuple #[.int .i64 n, .iface 100 (.pointer (some ⟨N, 0, none⟩))]) ∧ Fr w w' := by
  have hz : (⟨l.toArray⟩ : ByteArray).size ≤ 281474976710656 := by simp [ByteArray.size]; omega
  by_cases hc : Lib.atoiAll l = .range
  · obtain ⟨t, v, e3⟩ := L.e3
    refine (Tryd.strconv_Atoi_range ⟨l.toArray⟩ hz hc _ w e3 (.inr ⟨t, v, rfl⟩)).mono fun e w' k => ?_
    obtain ⟨N, rfl, _, _, hb⟩ := k
    exact ⟨_, N, rfl, Fr.ofBelow hb (Nat.le_refl _)⟩
  · obtain ⟨t, v, e2⟩ := L.e2
    refine (Tryd.strconv_Atoi_other ⟨l.toArray⟩ hz h hc _ w e2 (.inr ⟨t, v, rfl⟩)).mono fun e w' k => ?_
    obtain ⟨N, rfl, _, _, hb⟩ := k
    exact ⟨_, N, rfl, Fr.ofBelow hb (Nat.le_refl _)⟩
end Go.Proofs.YtphojlkljlnfjaaDoor
