/- What a call holds of memory, in one statement: its boxes and the data of its own, apart from each other; one law for each thing that turns. -/
import Derived.Test.YtphojlkljlnfjaaDoorBase
import Derived.OrdersHeld
namespace Go.Proofs.YtphojlkljlnfjaaDoor
set_option maxRecDepth 100000
set_option linter.unusedVariables false
set_option linter.unusedSimpArgs false
open Go.RowKit

/-- A part of memory: its blocks, and what holds of it. -/
structure Asrt where
  fp : List Nat
  ok : World → Prop
  lt : ∀ {w : World}, ok w → ∀ g ∈ fp, g < w.heap.size
  keep : ∀ {w w' : World}, ok w → (∀ g ∈ fp, w'.heap[g]? = w.heap[g]?) → ok w'
def aBox (g t n : Nat) (cs : List Value) : Asrt where
  fp := [g]
  ok := fun w => Box w g t cs.toArray ∧ cs.length = n
  lt := fun h q hq => by rw [List.mem_singleton.1 hq]; exact h.1.lt
  keep := fun h hk => ⟨⟨(hk g (by simp)).trans h.1.blk⟩, h.2⟩
def aOwn {α : Type} (d : Ty α) (x : α) (cs : List Value) (F : List Nat) : Asrt where
  fp := F
  ok := fun w => d.own w x cs F
  lt := fun h => d.own_lt h
  keep := fun h hk => d.keep h hk
def aRow {α : Type} (d : Ty α) (e : Nat) (xs : List α) (v : Value) (F : List Nat) : Asrt where
  fp := F
  ok := fun w => d.orow e w v xs F
  lt := fun h => h.lt
  keep := fun h hk => h.keep hk
/-- What reads as x, whatever turns but the blocks F. -/
def aRd {α : Type} (d : Ty α) (x : α) (cs : List Value) (F : List Nat) : Asrt where
  fp := F
  ok := fun w => (∀ g ∈ F, g < w.heap.size) ∧ ∀ w' : World, (∀ g ∈ F, w'.heap[g]? = w.heap[g]?) → d.rd w' x cs
  lt := fun h => h.1
  keep := fun {w w'} h hk => ⟨fun g hg => by
    have h1 := h.1 g hg
    have h2 := hk g hg
    rw [Array.getElem?_eq_getElem h1] at h2
    exact (Array.getElem?_eq_some_iff.1 h2).1, fun w'' hk' => h.2 w'' fun g hg => (hk' g hg).trans (hk g hg)⟩
def fps : List Asrt → List Nat
  | [] => []
  | a :: L => a.fp ++ fps L
theorem fps_append : ∀ A B : List Asrt, fps (A ++ B) = fps A ++ fps B
  | [], B => rfl
  | a :: A, B => by simp [fps, fps_append A B]
theorem mem_fps : ∀ {L : List Asrt} {g : Nat}, g ∈ fps L → ∃ a ∈ L, g ∈ a.fp
  | [], _, h => by cases h
  | a :: L, g, h => by
    rcases List.mem_append.1 h with h | h
    · exact ⟨a, by simp, h⟩
    · obtain ⟨b, hb, hg⟩ := mem_fps h
      exact ⟨b, List.mem_cons_of_mem _ hb, hg⟩
/-- Since w0 nothing has turned but the blocks F0; what is listed holds, each in blocks of its own, none of them older than the call but those of F0. -/
structure Sep (F0 : List Nat) (w0 : World) (L : List Asrt) (w : World) : Prop where
  chg : Chg F0 w0 w
  ok : ∀ a ∈ L, a.ok w
  base : ∀ a ∈ L, ∀ g ∈ a.fp, g ∈ F0 ∨ w0.heap.size ≤ g
  nd : (fps L).Nodup
inductive Put : List Asrt → Asrt → Asrt → List Asrt → Prop
  | head (a a' : Asrt) (L : List Asrt) : Put (a :: L) a a' (a' :: L)
  | tail (b : Asrt) {a a' : Asrt} {L L' : List Asrt} (h : Put L a a' L') : Put (b :: L) a a' (b :: L')
inductive Del : List Asrt → Asrt → List Asrt → Prop
  | head (a : Asrt) (L : List Asrt) : Del (a :: L) a L
  | tail (b : Asrt) {a : Asrt} {L L' : List Asrt} (h : Del L a L') : Del (b :: L) a (b :: L')
theorem Put.parts {L L' : List Asrt} {a a' : Asrt} (h : Put L a a' L') : ∃ A B, L = A ++ a :: B ∧ L' = A ++ a' :: B := by
  induction h with
  | head a a' L => exact ⟨[], L, rfl, rfl⟩
  | tail b _ ih =>
    obtain ⟨A, B, rfl, rfl⟩ := ih
    exact ⟨b :: A, B, rfl, rfl⟩
theorem Del.parts {L L' : List Asrt} {a : Asrt} (h : Del L a L') : ∃ A B, L = A ++ a :: B ∧ L' = A ++ B := by
  induction h with
  | head a L => exact ⟨[], L, rfl, rfl⟩
  | tail b _ ih =>
    obtain ⟨A, B, rfl, rfl⟩ := ih
    exact ⟨b :: A, B, rfl, rfl⟩
section
variable {F0 : List Nat} {w0 w w' : World} {L L' : List Asrt} {a a' : Asrt}
theorem Sep.start (w : World) : Sep [] w [] w := ⟨Chg.refl _ _, (fun a h => by cases h), (fun a h => by cases h), List.nodup_nil⟩
theorem Sep.startOwn {α : Type} {d : Ty α} {x : α} {cs : List Value} {F : List Nat} (h : d.own w x cs F) (hn : F.Nodup) : Sep F w [aOwn d x cs F] w :=
  ⟨Chg.refl _ _, (fun a ha => by rw [List.mem_singleton.1 ha]; exact h), (fun a ha g hg => by rw [List.mem_singleton.1 ha] at hg; exact .inl hg), by simpa [fps, aOwn] using hn⟩
theorem Sep.startRow {α : Type} {d : Ty α} {e : Nat} {xs : List α} {v : Value} {F : List Nat} (h : d.orow e w v xs F) (hn : F.Nodup) : Sep F w [aRow d e xs v F] w :=
  ⟨Chg.refl _ _, (fun a ha => by rw [List.mem_singleton.1 ha]; exact h), (fun a ha g hg => by rw [List.mem_singleton.1 ha] at hg; exact .inl hg), by simpa [fps, aRow] using hn⟩
theorem Sep.fr (S : Sep F0 w0 L w) (f : Fr w w') : Sep F0 w0 L w' :=
  ⟨S.chg.fr f, fun a ha => a.keep (S.ok a ha) (fun g hg => f.block g (a.lt (S.ok a ha) g hg) (by simp)), S.base, S.nd⟩
theorem Sep.drewN (S : Sep F0 w0 L w) (n : Nat) : Sep F0 w0 L (w.drewN n) := S.fr ((Fr.refl w).drewN n)
theorem Sep.drew (S : Sep F0 w0 L w) : Sep F0 w0 L w.drew := S.fr ((Fr.refl w).drew)
theorem Sep.new (S : Sep F0 w0 L w) (a : Asrt) (h : a.ok w') (hn : a.fp.Nodup) (hb : ∀ g ∈ a.fp, w.heap.size ≤ g) (f : Fr w w') : Sep F0 w0 (a :: L) w' := by
  have S' := S.fr f
  refine ⟨S'.chg, fun b hm => ?_, fun b hm => ?_, ?_⟩
  · rcases List.mem_cons.1 hm with rfl | hm
    · exact h
    · exact S'.ok _ hm
  · rcases List.mem_cons.1 hm with rfl | hm
    · exact fun g hg => .inr (Nat.le_trans S.chg.size (hb g hg))
    · exact S'.base _ hm
  · refine List.nodup_append.2 ⟨hn, S.nd, fun x hx y hy e => ?_⟩
    obtain ⟨b, hm, hg⟩ := mem_fps hy
    have h1 := b.lt (S.ok b hm) y hg
    have h2 := hb x hx
    omega
theorem Sep.put (S : Sep F0 w0 L w) (p : Put L a a' L') (hf : a'.fp = a.fp) (h : a'.ok w') (c : Chg a.fp w w') : Sep F0 w0 L' w' := by
  obtain ⟨A, B, rfl, rfl⟩ := p.parts
  have hnd := S.nd
  simp only [fps_append, fps] at hnd
  obtain ⟨n1, n2, n3⟩ := List.nodup_append.1 hnd
  obtain ⟨n4, n5, n6⟩ := List.nodup_append.1 n2
  have hA : ∀ b ∈ A, ∀ g ∈ b.fp, g ∈ fps A := fun b hb g hg => by
    obtain ⟨A1, A2, rfl⟩ := List.append_of_mem hb
    simp [fps_append, fps, hg]
  have hB : ∀ b ∈ B, ∀ g ∈ b.fp, g ∈ fps B := fun b hb g hg => by
    obtain ⟨A1, A2, rfl⟩ := List.append_of_mem hb
    simp [fps_append, fps, hg]
  refine ⟨S.chg.trans c (S.base a (by simp)), fun b hb => ?_, fun b hb => ?_, ?_⟩
  · rcases List.mem_append.1 hb with hb | hb
    · have ho := S.ok b (by simp [hb])
      exact b.keep ho (fun g hg => c.block g (b.lt ho g hg) (fun hga => n3 g (hA b hb g hg) g (by simp [hga]) rfl))
    · rcases List.mem_cons.1 hb with rfl | hb
      · exact h
      · have ho := S.ok b (by simp [hb])
        exact b.keep ho (fun g hg => c.block g (b.lt ho g hg) (fun hga => n6 g hga g (hB b hb g hg) rfl))
  · rcases List.mem_append.1 hb with hb | hb
    · exact S.base b (by simp [hb])
    · rcases List.mem_cons.1 hb with rfl | hb
      · rw [hf]; exact S.base a (by simp)
      · exact S.base b (by simp [hb])
  · simp only [fps_append, fps, hf]
    exact hnd
theorem Sep.putBox {g t n n' : Nat} {cs cs' : List Value} (S : Sep F0 w0 L w) (p : Put L (aBox g t n cs) (aBox g t n' cs') L') (h : Box w' g t cs'.toArray) (hn : cs'.length = n') (c : Chg [g] w w') : Sep F0 w0 L' w' := S.put p rfl ⟨h, hn⟩ c
theorem Sep.putOwn {α : Type} {d : Ty α} {x y : α} {cs cs' : List Value} {F : List Nat} (S : Sep F0 w0 L w) (p : Put L (aOwn d x cs F) (aOwn d y cs' F) L') (h : d.own w' y cs' F) (c : Chg F w w') : Sep F0 w0 L' w' := S.put p rfl h c
theorem Sep.putRow {α : Type} {d : Ty α} {e : Nat} {xs ys : List α} {v v' : Value} {F : List Nat} (S : Sep F0 w0 L w) (p : Put L (aRow d e xs v F) (aRow d e ys v' F) L') (h : d.orow e w' v' ys F) (c : Chg F w w') : Sep F0 w0 L' w' := S.put p rfl h c
theorem Sep.pull (S : Sep F0 w0 L w) (p : Del L a L') : Sep F0 w0 (a :: L') w := by
  obtain ⟨A, B, rfl, rfl⟩ := p.parts
  have hp : (A ++ a :: B).Perm (a :: (A ++ B)) := List.perm_middle
  refine ⟨S.chg, fun b hb => S.ok b (hp.mem_iff.2 hb), fun b hb => S.base b (hp.mem_iff.2 hb), ?_⟩
  have hnd := S.nd
  simp only [fps_append, fps] at hnd ⊢
  refine List.Perm.nodup ?_ hnd
  rw [← List.append_assoc, ← List.append_assoc]
  exact List.Perm.append_right _ List.perm_append_comm
theorem Sep.drop (S : Sep F0 w0 (a :: L) w) : Sep F0 w0 L w := ⟨S.chg, fun b hb => S.ok b (List.mem_cons_of_mem _ hb), fun b hb => S.base b (List.mem_cons_of_mem _ hb), (List.nodup_append.1 S.nd).2.1⟩
theorem Sep.rest (S : Sep F0 w0 L w) (p : Del L a L') : Sep F0 w0 L' w := (S.pull p).drop
/-- A part taken apart. -/
theorem Sep.conv (S : Sep F0 w0 (a :: L) w) (as : List Asrt) (hf : fps as = a.fp) (h : ∀ b ∈ as, b.ok w) : Sep F0 w0 (as ++ L) w := by
  refine ⟨S.chg, fun b hb => ?_, fun b hb g hg => ?_, ?_⟩
  · rcases List.mem_append.1 hb with hb | hb
    · exact h b hb
    · exact S.ok b (List.mem_cons_of_mem _ hb)
  · rcases List.mem_append.1 hb with hb | hb
    · refine S.base a (by simp) g ?_
      rw [← hf]
      obtain ⟨A1, A2, rfl⟩ := List.append_of_mem hb
      simp [fps_append, fps, hg]
    · exact S.base b (List.mem_cons_of_mem _ hb) g hg
  · rw [fps_append, hf]; exact S.nd
/-- Parts put together. -/
theorem Sep.join (as : List Asrt) (S : Sep F0 w0 (as ++ L) w) (a : Asrt) (hf : a.fp = fps as) (h : (∀ b ∈ as, b.ok w) → a.ok w) : Sep F0 w0 (a :: L) w := by
  refine ⟨S.chg, fun b hb => ?_, fun b hb g hg => ?_, ?_⟩
  · rcases List.mem_cons.1 hb with rfl | hb
    · exact h (fun b hb => S.ok b (by simp [hb]))
    · exact S.ok b (by simp [hb])
  · rcases List.mem_cons.1 hb with rfl | hb
    · rw [hf] at hg
      obtain ⟨c, hc, hg⟩ := mem_fps hg
      exact S.base c (by simp [hc]) g hg
    · exact S.base b (by simp [hb]) g hg
  · have := S.nd
    rw [fps_append, ← hf] at this
    exact this
theorem Sep.left (A : List Asrt) {B : List Asrt} (S : Sep F0 w0 (A ++ B) w) : Sep F0 w0 A w :=
  ⟨S.chg, (fun b hb => S.ok b (by simp [hb])), (fun b hb => S.base b (by simp [hb])), by have := S.nd; rw [fps_append] at this; exact (List.nodup_append.1 this).1⟩
theorem Sep.sub (S : Sep F0 w0 L w) (h : L'.Sublist L) : Sep F0 w0 L' w := by
  refine ⟨S.chg, fun b hb => S.ok b (h.subset hb), fun b hb => S.base b (h.subset hb), ?_⟩
  have hf : (fps L').Sublist (fps L) := by
    clear S
    induction h with
    | slnil => exact List.Sublist.refl _
    | cons a _ ih => exact ih.trans (List.sublist_append_right _ _)
    | cons_cons a _ ih => exact List.Sublist.append (List.Sublist.refl _) ih
  exact hf.nodup S.nd
theorem Sep.only1 {L1 : List Asrt} {a1 : Asrt} (S : Sep F0 w0 L w) (p1 : Del L a1 L1) : Sep F0 w0 [a1] w := by
  have T1 := S.pull p1
  have U1 := T1
  exact U1.left [a1]
theorem Sep.only2 {L1 : List Asrt} {a1 : Asrt} {L2 : List Asrt} {a2 : Asrt} (S : Sep F0 w0 L w) (p1 : Del L a1 L1) (p2 : Del L1 a2 L2) : Sep F0 w0 [a1, a2] w := by
  have T1 := S.pull p1
  have T2 := T1.pull (.tail _ p2)
  have U2 := T2
  have U1 := U2.pull (.tail _ (.head _ _))
  exact U1.left [a1, a2]
theorem Sep.only3 {L1 : List Asrt} {a1 : Asrt} {L2 : List Asrt} {a2 : Asrt} {L3 : List Asrt} {a3 : Asrt} (S : Sep F0 w0 L w) (p1 : Del L a1 L1) (p2 : Del L1 a2 L2) (p3 : Del L2 a3 L3) : Sep F0 w0 [a1, a2, a3] w := by
  have T1 := S.pull p1
  have T2 := T1.pull (.tail _ p2)
  have T3 := T2.pull (.tail _ (.tail _ p3))
  have U3 := T3
  have U2 := U3.pull (.tail _ (.head _ _))
  have U1 := U2.pull (.tail _ (.tail _ (.head _ _)))
  exact U1.left [a1, a2, a3]
theorem Sep.only4 {L1 : List Asrt} {a1 : Asrt} {L2 : List Asrt} {a2 : Asrt} {L3 : List Asrt} {a3 : Asrt} {L4 : List Asrt} {a4 : Asrt} (S : Sep F0 w0 L w) (p1 : Del L a1 L1) (p2 : Del L1 a2 L2) (p3 : Del L2 a3 L3) (p4 : Del L3 a4 L4) : Sep F0 w0 [a1, a2, a3, a4] w := by
  have T1 := S.pull p1
  have T2 := T1.pull (.tail _ p2)
  have T3 := T2.pull (.tail _ (.tail _ p3))
  have T4 := T3.pull (.tail _ (.tail _ (.tail _ p4)))
  have U4 := T4
  have U3 := U4.pull (.tail _ (.head _ _))
  have U2 := U3.pull (.tail _ (.tail _ (.head _ _)))
  have U1 := U2.pull (.tail _ (.tail _ (.tail _ (.head _ _))))
  exact U1.left [a1, a2, a3, a4]
theorem Sep.only5 {L1 : List Asrt} {a1 : Asrt} {L2 : List Asrt} {a2 : Asrt} {L3 : List Asrt} {a3 : Asrt} {L4 : List Asrt} {a4 : Asrt} {L5 : List Asrt} {a5 : Asrt} (S : Sep F0 w0 L w) (p1 : Del L a1 L1) (p2 : Del L1 a2 L2) (p3 : Del L2 a3 L3) (p4 : Del L3 a4 L4) (p5 : Del L4 a5 L5) : Sep F0 w0 [a1, a2, a3, a4, a5] w := by
  have T1 := S.pull p1
  have T2 := T1.pull (.tail _ p2)
  have T3 := T2.pull (.tail _ (.tail _ p3))
  have T4 := T3.pull (.tail _ (.tail _ (.tail _ p4)))
  have T5 := T4.pull (.tail _ (.tail _ (.tail _ (.tail _ p5))))
  have U5 := T5
  have U4 := U5.pull (.tail _ (.head _ _))
  have U3 := U4.pull (.tail _ (.tail _ (.head _ _)))
  have U2 := U3.pull (.tail _ (.tail _ (.tail _ (.head _ _))))
  have U1 := U2.pull (.tail _ (.tail _ (.tail _ (.tail _ (.head _ _)))))
  exact U1.left [a1, a2, a3, a4, a5]
theorem Sep.only6 {L1 : List Asrt} {a1 : Asrt} {L2 : List Asrt} {a2 : Asrt} {L3 : List Asrt} {a3 : Asrt} {L4 : List Asrt} {a4 : Asrt} {L5 : List Asrt} {a5 : Asrt} {L6 : List Asrt} {a6 : Asrt} (S : Sep F0 w0 L w) (p1 : Del L a1 L1) (p2 : Del L1 a2 L2) (p3 : Del L2 a3 L3) (p4 : Del L3 a4 L4) (p5 : Del L4 a5 L5) (p6 : Del L5 a6 L6) : Sep F0 w0 [a1, a2, a3, a4, a5, a6] w := by
  have T1 := S.pull p1
  have T2 := T1.pull (.tail _ p2)
  have T3 := T2.pull (.tail _ (.tail _ p3))
  have T4 := T3.pull (.tail _ (.tail _ (.tail _ p4)))
  have T5 := T4.pull (.tail _ (.tail _ (.tail _ (.tail _ p5))))
  have T6 := T5.pull (.tail _ (.tail _ (.tail _ (.tail _ (.tail _ p6)))))
  have U6 := T6
  have U5 := U6.pull (.tail _ (.head _ _))
  have U4 := U5.pull (.tail _ (.tail _ (.head _ _)))
  have U3 := U4.pull (.tail _ (.tail _ (.tail _ (.head _ _))))
  have U2 := U3.pull (.tail _ (.tail _ (.tail _ (.tail _ (.head _ _)))))
  have U1 := U2.pull (.tail _ (.tail _ (.tail _ (.tail _ (.tail _ (.head _ _))))))
  exact U1.left [a1, a2, a3, a4, a5, a6]
theorem Sep.only7 {L1 : List Asrt} {a1 : Asrt} {L2 : List Asrt} {a2 : Asrt} {L3 : List Asrt} {a3 : Asrt} {L4 : List Asrt} {a4 : Asrt} {L5 : List Asrt} {a5 : Asrt} {L6 : List Asrt} {a6 : Asrt} {L7 : List Asrt} {a7 : Asrt} (S : Sep F0 w0 L w) (p1 : Del L a1 L1) (p2 : Del L1 a2 L2) (p3 : Del L2 a3 L3) (p4 : Del L3 a4 L4) (p5 : Del L4 a5 L5) (p6 : Del L5 a6 L6) (p7 : Del L6 a7 L7) : Sep F0 w0 [a1, a2, a3, a4, a5, a6, a7] w := by
  have T1 := S.pull p1
  have T2 := T1.pull (.tail _ p2)
  have T3 := T2.pull (.tail _ (.tail _ p3))
  have T4 := T3.pull (.tail _ (.tail _ (.tail _ p4)))
  have T5 := T4.pull (.tail _ (.tail _ (.tail _ (.tail _ p5))))
  have T6 := T5.pull (.tail _ (.tail _ (.tail _ (.tail _ (.tail _ p6)))))
  have T7 := T6.pull (.tail _ (.tail _ (.tail _ (.tail _ (.tail _ (.tail _ p7))))))
  have U7 := T7
  have U6 := U7.pull (.tail _ (.head _ _))
  have U5 := U6.pull (.tail _ (.tail _ (.head _ _)))
  have U4 := U5.pull (.tail _ (.tail _ (.tail _ (.head _ _))))
  have U3 := U4.pull (.tail _ (.tail _ (.tail _ (.tail _ (.head _ _)))))
  have U2 := U3.pull (.tail _ (.tail _ (.tail _ (.tail _ (.tail _ (.head _ _))))))
  have U1 := U2.pull (.tail _ (.tail _ (.tail _ (.tail _ (.tail _ (.tail _ (.head _ _)))))))
  exact U1.left [a1, a2, a3, a4, a5, a6, a7]
theorem Sep.only8 {L1 : List Asrt} {a1 : Asrt} {L2 : List Asrt} {a2 : Asrt} {L3 : List Asrt} {a3 : Asrt} {L4 : List Asrt} {a4 : Asrt} {L5 : List Asrt} {a5 : Asrt} {L6 : List Asrt} {a6 : Asrt} {L7 : List Asrt} {a7 : Asrt} {L8 : List Asrt} {a8 : Asrt} (S : Sep F0 w0 L w) (p1 : Del L a1 L1) (p2 : Del L1 a2 L2) (p3 : Del L2 a3 L3) (p4 : Del L3 a4 L4) (p5 : Del L4 a5 L5) (p6 : Del L5 a6 L6) (p7 : Del L6 a7 L7) (p8 : Del L7 a8 L8) : Sep F0 w0 [a1, a2, a3, a4, a5, a6, a7, a8] w := by
  have T1 := S.pull p1
  have T2 := T1.pull (.tail _ p2)
  have T3 := T2.pull (.tail _ (.tail _ p3))
  have T4 := T3.pull (.tail _ (.tail _ (.tail _ p4)))
  have T5 := T4.pull (.tail _ (.tail _ (.tail _ (.tail _ p5))))
  have T6 := T5.pull (.tail _ (.tail _ (.tail _ (.tail _ (.tail _ p6)))))
  have T7 := T6.pull (.tail _ (.tail _ (.tail _ (.tail _ (.tail _ (.tail _ p7))))))
  have T8 := T7.pull (.tail _ (.tail _ (.tail _ (.tail _ (.tail _ (.tail _ (.tail _ p8)))))))
  have U8 := T8
  have U7 := U8.pull (.tail _ (.head _ _))
  have U6 := U7.pull (.tail _ (.tail _ (.head _ _)))
  have U5 := U6.pull (.tail _ (.tail _ (.tail _ (.head _ _))))
  have U4 := U5.pull (.tail _ (.tail _ (.tail _ (.tail _ (.head _ _)))))
  have U3 := U4.pull (.tail _ (.tail _ (.tail _ (.tail _ (.tail _ (.head _ _))))))
  have U2 := U3.pull (.tail _ (.tail _ (.tail _ (.tail _ (.tail _ (.tail _ (.head _ _)))))))
  have U1 := U2.pull (.tail _ (.tail _ (.tail _ (.tail _ (.tail _ (.tail _ (.tail _ (.head _ _))))))))
  exact U1.left [a1, a2, a3, a4, a5, a6, a7, a8]
theorem Sep.only9 {L1 : List Asrt} {a1 : Asrt} {L2 : List Asrt} {a2 : Asrt} {L3 : List Asrt} {a3 : Asrt} {L4 : List Asrt} {a4 : Asrt} {L5 : List Asrt} {a5 : Asrt} {L6 : List Asrt} {a6 : Asrt} {L7 : List Asrt} {a7 : Asrt} {L8 : List Asrt} {a8 : Asrt} {L9 : List Asrt} {a9 : Asrt} (S : Sep F0 w0 L w) (p1 : Del L a1 L1) (p2 : Del L1 a2 L2) (p3 : Del L2 a3 L3) (p4 : Del L3 a4 L4) (p5 : Del L4 a5 L5) (p6 : Del L5 a6 L6) (p7 : Del L6 a7 L7) (p8 : Del L7 a8 L8) (p9 : Del L8 a9 L9) : Sep F0 w0 [a1, a2, a3, a4, a5, a6, a7, a8, a9] w := by
  have T1 := S.pull p1
  have T2 := T1.pull (.tail _ p2)
  have T3 := T2.pull (.tail _ (.tail _ p3))
  have T4 := T3.pull (.tail _ (.tail _ (.tail _ p4)))
  have T5 := T4.pull (.tail _ (.tail _ (.tail _ (.tail _ p5))))
  have T6 := T5.pull (.tail _ (.tail _ (.tail _ (.tail _ (.tail _ p6)))))
  have T7 := T6.pull (.tail _ (.tail _ (.tail _ (.tail _ (.tail _ (.tail _ p7))))))
  have T8 := T7.pull (.tail _ (.tail _ (.tail _ (.tail _ (.tail _ (.tail _ (.tail _ p8)))))))
  have T9 := T8.pull (.tail _ (.tail _ (.tail _ (.tail _ (.tail _ (.tail _ (.tail _ (.tail _ p9))))))))
  have U9 := T9
  have U8 := U9.pull (.tail _ (.head _ _))
  have U7 := U8.pull (.tail _ (.tail _ (.head _ _)))
  have U6 := U7.pull (.tail _ (.tail _ (.tail _ (.head _ _))))
  have U5 := U6.pull (.tail _ (.tail _ (.tail _ (.tail _ (.head _ _)))))
  have U4 := U5.pull (.tail _ (.tail _ (.tail _ (.tail _ (.tail _ (.head _ _))))))
  have U3 := U4.pull (.tail _ (.tail _ (.tail _ (.tail _ (.tail _ (.tail _ (.head _ _)))))))
  have U2 := U3.pull (.tail _ (.tail _ (.tail _ (.tail _ (.tail _ (.tail _ (.tail _ (.head _ _))))))))
  have U1 := U2.pull (.tail _ (.tail _ (.tail _ (.tail _ (.tail _ (.tail _ (.tail _ (.tail _ (.head _ _)))))))))
  exact U1.left [a1, a2, a3, a4, a5, a6, a7, a8, a9]
theorem Sep.only10 {L1 : List Asrt} {a1 : Asrt} {L2 : List Asrt} {a2 : Asrt} {L3 : List Asrt} {a3 : Asrt} {L4 : List Asrt} {a4 : Asrt} {L5 : List Asrt} {a5 : Asrt} {L6 : List Asrt} {a6 : Asrt} {L7 : List Asrt} {a7 : Asrt} {L8 : List Asrt} {a8 : Asrt} {L9 : List Asrt} {a9 : Asrt} {L10 : List Asrt} {a10 : Asrt} (S : Sep F0 w0 L w) (p1 : Del L a1 L1) (p2 : Del L1 a2 L2) (p3 : Del L2 a3 L3) (p4 : Del L3 a4 L4) (p5 : Del L4 a5 L5) (p6 : Del L5 a6 L6) (p7 : Del L6 a7 L7) (p8 : Del L7 a8 L8) (p9 : Del L8 a9 L9) (p10 : Del L9 a10 L10) : Sep F0 w0 [a1, a2, a3, a4, a5, a6, a7, a8, a9, a10] w := by
  have T1 := S.pull p1
  have T2 := T1.pull (.tail _ p2)
  have T3 := T2.pull (.tail _ (.tail _ p3))
  have T4 := T3.pull (.tail _ (.tail _ (.tail _ p4)))
  have T5 := T4.pull (.tail _ (.tail _ (.tail _ (.tail _ p5))))
  have T6 := T5.pull (.tail _ (.tail _ (.tail _ (.tail _ (.tail _ p6)))))
  have T7 := T6.pull (.tail _ (.tail _ (.tail _ (.tail _ (.tail _ (.tail _ p7))))))
  have T8 := T7.pull (.tail _ (.tail _ (.tail _ (.tail _ (.tail _ (.tail _ (.tail _ p8)))))))
  have T9 := T8.pull (.tail _ (.tail _ (.tail _ (.tail _ (.tail _ (.tail _ (.tail _ (.tail _ p9))))))))
  have T10 := T9.pull (.tail _ (.tail _ (.tail _ (.tail _ (.tail _ (.tail _ (.tail _ (.tail _ (.tail _ p10)))))))))
  have U10 := T10
  have U9 := U10.pull (.tail _ (.head _ _))
  have U8 := U9.pull (.tail _ (.tail _ (.head _ _)))
  have U7 := U8.pull (.tail _ (.tail _ (.tail _ (.head _ _))))
  have U6 := U7.pull (.tail _ (.tail _ (.tail _ (.tail _ (.head _ _)))))
  have U5 := U6.pull (.tail _ (.tail _ (.tail _ (.tail _ (.tail _ (.head _ _))))))
  have U4 := U5.pull (.tail _ (.tail _ (.tail _ (.tail _ (.tail _ (.tail _ (.head _ _)))))))
  have U3 := U4.pull (.tail _ (.tail _ (.tail _ (.tail _ (.tail _ (.tail _ (.tail _ (.head _ _))))))))
  have U2 := U3.pull (.tail _ (.tail _ (.tail _ (.tail _ (.tail _ (.tail _ (.tail _ (.tail _ (.head _ _)))))))))
  have U1 := U2.pull (.tail _ (.tail _ (.tail _ (.tail _ (.tail _ (.tail _ (.tail _ (.tail _ (.tail _ (.head _ _))))))))))
  exact U1.left [a1, a2, a3, a4, a5, a6, a7, a8, a9, a10]
theorem Sep.only11 {L1 : List Asrt} {a1 : Asrt} {L2 : List Asrt} {a2 : Asrt} {L3 : List Asrt} {a3 : Asrt} {L4 : List Asrt} {a4 : Asrt} {L5 : List Asrt} {a5 : Asrt} {L6 : List Asrt} {a6 : Asrt} {L7 : List Asrt} {a7 : Asrt} {L8 : List Asrt} {a8 : Asrt} {L9 : List Asrt} {a9 : Asrt} {L10 : List Asrt} {a10 : Asrt} {L11 : List Asrt} {a11 : Asrt} (S : Sep F0 w0 L w) (p1 : Del L a1 L1) (p2 : Del L1 a2 L2) (p3 : Del L2 a3 L3) (p4 : Del L3 a4 L4) (p5 : Del L4 a5 L5) (p6 : Del L5 a6 L6) (p7 : Del L6 a7 L7) (p8 : Del L7 a8 L8) (p9 : Del L8 a9 L9) (p10 : Del L9 a10 L10) (p11 : Del L10 a11 L11) : Sep F0 w0 [a1, a2, a3, a4, a5, a6, a7, a8, a9, a10, a11] w := by
  have T1 := S.pull p1
  have T2 := T1.pull (.tail _ p2)
  have T3 := T2.pull (.tail _ (.tail _ p3))
  have T4 := T3.pull (.tail _ (.tail _ (.tail _ p4)))
  have T5 := T4.pull (.tail _ (.tail _ (.tail _ (.tail _ p5))))
  have T6 := T5.pull (.tail _ (.tail _ (.tail _ (.tail _ (.tail _ p6)))))
  have T7 := T6.pull (.tail _ (.tail _ (.tail _ (.tail _ (.tail _ (.tail _ p7))))))
  have T8 := T7.pull (.tail _ (.tail _ (.tail _ (.tail _ (.tail _ (.tail _ (.tail _ p8)))))))
  have T9 := T8.pull (.tail _ (.tail _ (.tail _ (.tail _ (.tail _ (.tail _ (.tail _ (.tail _ p9))))))))
  have T10 := T9.pull (.tail _ (.tail _ (.tail _ (.tail _ (.tail _ (.tail _ (.tail _ (.tail _ (.tail _ p10)))))))))
  have T11 := T10.pull (.tail _ (.tail _ (.tail _ (.tail _ (.tail _ (.tail _ (.tail _ (.tail _ (.tail _ (.tail _ p11))))))))))
  have U11 := T11
  have U10 := U11.pull (.tail _ (.head _ _))
  have U9 := U10.pull (.tail _ (.tail _ (.head _ _)))
  have U8 := U9.pull (.tail _ (.tail _ (.tail _ (.head _ _))))
  have U7 := U8.pull (.tail _ (.tail _ (.tail _ (.tail _ (.head _ _)))))
  have U6 := U7.pull (.tail _ (.tail _ (.tail _ (.tail _ (.tail _ (.head _ _))))))
  have U5 := U6.pull (.tail _ (.tail _ (.tail _ (.tail _ (.tail _ (.tail _ (.head _ _)))))))
  have U4 := U5.pull (.tail _ (.tail _ (.tail _ (.tail _ (.tail _ (.tail _ (.tail _ (.head _ _))))))))
  have U3 := U4.pull (.tail _ (.tail _ (.tail _ (.tail _ (.tail _ (.tail _ (.tail _ (.tail _ (.head _ _)))))))))
  have U2 := U3.pull (.tail _ (.tail _ (.tail _ (.tail _ (.tail _ (.tail _ (.tail _ (.tail _ (.tail _ (.head _ _))))))))))
  have U1 := U2.pull (.tail _ (.tail _ (.tail _ (.tail _ (.tail _ (.tail _ (.tail _ (.tail _ (.tail _ (.tail _ (.head _ _)))))))))))
  exact U1.left [a1, a2, a3, a4, a5, a6, a7, a8, a9, a10, a11]
theorem Sep.only12 {L1 : List Asrt} {a1 : Asrt} {L2 : List Asrt} {a2 : Asrt} {L3 : List Asrt} {a3 : Asrt} {L4 : List Asrt} {a4 : Asrt} {L5 : List Asrt} {a5 : Asrt} {L6 : List Asrt} {a6 : Asrt} {L7 : List Asrt} {a7 : Asrt} {L8 : List Asrt} {a8 : Asrt} {L9 : List Asrt} {a9 : Asrt} {L10 : List Asrt} {a10 : Asrt} {L11 : List Asrt} {a11 : Asrt} {L12 : List Asrt} {a12 : Asrt} (S : Sep F0 w0 L w) (p1 : Del L a1 L1) (p2 : Del L1 a2 L2) (p3 : Del L2 a3 L3) (p4 : Del L3 a4 L4) (p5 : Del L4 a5 L5) (p6 : Del L5 a6 L6) (p7 : Del L6 a7 L7) (p8 : Del L7 a8 L8) (p9 : Del L8 a9 L9) (p10 : Del L9 a10 L10) (p11 : Del L10 a11 L11) (p12 : Del L11 a12 L12) : Sep F0 w0 [a1, a2, a3, a4, a5, a6, a7, a8, a9, a10, a11, a12] w := by
  have T1 := S.pull p1
  have T2 := T1.pull (.tail _ p2)
  have T3 := T2.pull (.tail _ (.tail _ p3))
  have T4 := T3.pull (.tail _ (.tail _ (.tail _ p4)))
  have T5 := T4.pull (.tail _ (.tail _ (.tail _ (.tail _ p5))))
  have T6 := T5.pull (.tail _ (.tail _ (.tail _ (.tail _ (.tail _ p6)))))
  have T7 := T6.pull (.tail _ (.tail _ (.tail _ (.tail _ (.tail _ (.tail _ p7))))))
  have T8 := T7.pull (.tail _ (.tail _ (.tail _ (.tail _ (.tail _ (.tail _ (.tail _ p8)))))))
  have T9 := T8.pull (.tail _ (.tail _ (.tail _ (.tail _ (.tail _ (.tail _ (.tail _ (.tail _ p9))))))))
  have T10 := T9.pull (.tail _ (.tail _ (.tail _ (.tail _ (.tail _ (.tail _ (.tail _ (.tail _ (.tail _ p10)))))))))
  have T11 := T10.pull (.tail _ (.tail _ (.tail _ (.tail _ (.tail _ (.tail _ (.tail _ (.tail _ (.tail _ (.tail _ p11))))))))))
  have T12 := T11.pull (.tail _ (.tail _ (.tail _ (.tail _ (.tail _ (.tail _ (.tail _ (.tail _ (.tail _ (.tail _ (.tail _ p12)))))))))))
  have U12 := T12
  have U11 := U12.pull (.tail _ (.head _ _))
  have U10 := U11.pull (.tail _ (.tail _ (.head _ _)))
  have U9 := U10.pull (.tail _ (.tail _ (.tail _ (.head _ _))))
  have U8 := U9.pull (.tail _ (.tail _ (.tail _ (.tail _ (.head _ _)))))
  have U7 := U8.pull (.tail _ (.tail _ (.tail _ (.tail _ (.tail _ (.head _ _))))))
  have U6 := U7.pull (.tail _ (.tail _ (.tail _ (.tail _ (.tail _ (.tail _ (.head _ _)))))))
  have U5 := U6.pull (.tail _ (.tail _ (.tail _ (.tail _ (.tail _ (.tail _ (.tail _ (.head _ _))))))))
  have U4 := U5.pull (.tail _ (.tail _ (.tail _ (.tail _ (.tail _ (.tail _ (.tail _ (.tail _ (.head _ _)))))))))
  have U3 := U4.pull (.tail _ (.tail _ (.tail _ (.tail _ (.tail _ (.tail _ (.tail _ (.tail _ (.tail _ (.head _ _))))))))))
  have U2 := U3.pull (.tail _ (.tail _ (.tail _ (.tail _ (.tail _ (.tail _ (.tail _ (.tail _ (.tail _ (.tail _ (.head _ _)))))))))))
  have U1 := U2.pull (.tail _ (.tail _ (.tail _ (.tail _ (.tail _ (.tail _ (.tail _ (.tail _ (.tail _ (.tail _ (.tail _ (.head _ _))))))))))))
  exact U1.left [a1, a2, a3, a4, a5, a6, a7, a8, a9, a10, a11, a12]
/-- A call that was handed the parts A, and leaves A' for them. -/
theorem Sep.call (A : List Asrt) {A' B : List Asrt} (S : Sep F0 w0 (A ++ B) w) (T : Sep (fps A) w A' w') : Sep F0 w0 (A' ++ B) w' := by
  have hnd := S.nd
  rw [fps_append] at hnd
  obtain ⟨n1, n2, n3⟩ := List.nodup_append.1 hnd
  have hA : ∀ g ∈ fps A, g ∈ F0 ∨ w0.heap.size ≤ g := fun g hg => by
    obtain ⟨a, ha, hg⟩ := mem_fps hg
    exact S.base a (by simp [ha]) g hg
  have hB : ∀ b ∈ B, ∀ g ∈ b.fp, g ∈ fps B := fun b hb g hg => by
    obtain ⟨A1, A2, rfl⟩ := List.append_of_mem hb
    simp [fps_append, fps, hg]
  refine ⟨S.chg.trans T.chg hA, fun b hb => ?_, fun b hb g hg => ?_, ?_⟩
  · rcases List.mem_append.1 hb with hb | hb
    · exact T.ok b hb
    · have ho := S.ok b (by simp [hb])
      exact b.keep ho (fun g hg => T.chg.block g (b.lt ho g hg) (fun hga => n3 g hga g (hB b hb g hg) rfl))
  · rcases List.mem_append.1 hb with hb | hb
    · rcases T.base b hb g hg with h | h
      · exact hA g h
      · exact .inr (Nat.le_trans S.chg.size h)
    · exact S.base b (by simp [hb]) g hg
  · rw [fps_append]
    refine List.nodup_append.2 ⟨T.nd, n2, fun x hx y hy e => ?_⟩
    subst e
    obtain ⟨a, ha, hx⟩ := mem_fps hx
    rcases T.base a ha x hx with h | h
    · exact n3 x h x hy rfl
    · obtain ⟨b, hb, hy⟩ := mem_fps hy
      have := b.lt (S.ok b (by simp [hb])) x hy
      omega
theorem Sep.callBox {A' : List Asrt} {g t n : Nat} {cs : List Value} (S : Sep F0 w0 L w) (p : Del L (aBox g t n cs) L') (T : Sep [g] w A' w') : Sep F0 w0 (A' ++ L') w' := Sep.call [aBox g t n cs] (S.pull p) T
theorem Sep.callOwn {A' : List Asrt} {α : Type} {d : Ty α} {x : α} {cs : List Value} {F : List Nat} (S : Sep F0 w0 L w) (p : Del L (aOwn d x cs F) L') (T : Sep F w A' w') : Sep F0 w0 (A' ++ L') w' := Sep.call [aOwn d x cs F] (S.pull p) (by simpa [fps, aOwn] using T)
theorem Sep.callRow {A' : List Asrt} {α : Type} {d : Ty α} {e : Nat} {xs : List α} {v : Value} {F : List Nat} (S : Sep F0 w0 L w) (p : Del L (aRow d e xs v F) L') (T : Sep F w A' w') : Sep F0 w0 (A' ++ L') w' := Sep.call [aRow d e xs v F] (S.pull p) (by simpa [fps, aRow] using T)
theorem Sep.frame (S : Sep [] w0 L w) : Fr w0 w := S.chg
theorem Sep.nodup (S : Sep F0 w0 L w) (h : a ∈ L) : a.fp.Nodup := by
  obtain ⟨A, B, rfl⟩ := List.append_of_mem h
  have := S.nd
  simp only [fps_append, fps] at this
  exact (List.nodup_append.1 (List.nodup_append.1 this).2.1).1
theorem Sep.low (S : Sep [] w0 L w) (h : a ∈ L) : ∀ g ∈ a.fp, w0.heap.size ≤ g := fun g hg => by
  rcases S.base a h g hg with h | h
  · cases h
  · exact h
theorem Sep.own {α : Type} {d : Ty α} {x : α} {cs : List Value} {F : List Nat} (S : Sep F0 w0 L w) (h : aOwn d x cs F ∈ L) : d.own w x cs F := S.ok _ h
theorem Sep.rdIn {α : Type} {d : Ty α} {x : α} {cs : List Value} {F : List Nat} (S : Sep F0 w0 L w) (h : aRd d x cs F ∈ L) : d.rd w x cs := (S.ok _ h).2 w fun _ _ => rfl
theorem Sep.ownNd {α : Type} {d : Ty α} {x : α} {cs : List Value} {F : List Nat} (S : Sep F0 w0 L w) (h : aOwn d x cs F ∈ L) : F.Nodup := S.nodup h
theorem Sep.both {α : Type} {d : Ty α} {x : α} {cs : List Value} {F : List Nat} (S : Sep F0 w0 L w) (h : aOwn d x cs F ∈ L) : d.own w x cs F ∧ F.Nodup := ⟨S.ok _ h, S.nodup h⟩
theorem Sep.rd {α : Type} {d : Ty α} {x : α} {cs : List Value} {F : List Nat} (S : Sep F0 w0 L w) (h : aOwn d x cs F ∈ L) : d.rd w x cs := d.own_rd (S.ok _ h)
theorem Sep.len {α : Type} {d : Ty α} {x : α} {cs : List Value} {F : List Nat} (S : Sep F0 w0 L w) (h : aOwn d x cs F ∈ L) : cs.length = d.sz := d.len (S.rd h)
theorem Sep.len' {α : Type} {d : Ty α} {x : α} {cs : List Value} {F : List Nat} (S : Sep F0 w0 L w) (h : aOwn d x cs F ∈ L) {n : Nat} (hn : d.sz = n) : cs.length = n := (S.len h).trans hn
theorem Sep.one {α : Type} {d : Ty α} {x : α} {cs : List Value} {F : List Nat} (S : Sep F0 w0 L w) (h : aOwn d x cs F ∈ L) : ∀ u ∈ cs, u.oneCell' = true := d.one (S.ok _ h)
theorem Sep.row {α : Type} {d : Ty α} {e : Nat} {xs : List α} {v : Value} {F : List Nat} (S : Sep F0 w0 L w) (h : aRow d e xs v F ∈ L) : d.orow e w v xs F := S.ok _ h
theorem Sep.rowOne {α : Type} {d : Ty α} {e : Nat} {xs : List α} {v : Value} {F : List Nat} (S : Sep F0 w0 L w) (h : aRow d e xs v F ∈ L) : v.oneCell' = true := (S.row h).one
theorem Sep.box {g t n : Nat} {cs : List Value} (S : Sep F0 w0 L w) (h : aBox g t n cs ∈ L) : Box w g t cs.toArray := (S.ok _ h).1
theorem Sep.cells {g t n : Nat} {cs : List Value} (S : Sep F0 w0 L w) (h : aBox g t n cs ∈ L) : ∀ j, w.cell? ⟨g, j, none⟩ = cs.toArray[j]? := (S.box h).cells
theorem Sep.retOwn {α : Type} {d : Ty α} {x : α} {cs : List Value} {F : List Nat} (S : Sep [] w0 L w) (h : aOwn d x cs F ∈ L) : RetOwn d x w0 (.returned (.agg cs.toArray)) w :=
  ⟨cs, F, rfl, S.own h, S.nodup h, S.low h, S.chg⟩
theorem Sep.retRow {α : Type} {d : Ty α} {e : Nat} {xs : List α} {v : Value} {F : List Nat} (S : Sep [] w0 L w) (h : aRow d e xs v F ∈ L) : RetRow d e xs w0 (.returned v) w :=
  ⟨v, F, rfl, S.row h, S.nodup h, S.low h, S.chg⟩
end
theorem one_nil : ∀ u ∈ ([] : List Value), u.oneCell' = true := fun u h => by cases h
theorem one_cons {v : Value} {l : List Value} (h : v.oneCell' = true) (hl : ∀ u ∈ l, u.oneCell' = true) : ∀ u ∈ v :: l, u.oneCell' = true := fun u hu => by
  rcases List.mem_cons.1 hu with rfl | hu
  · exact h
  · exact hl u hu

section
variable {P : Program} {ops : Array Oper} {rest : List Oper} {o : Oper} {a : Act} {Q : Exit → Act → World → Prop} {W w0 : World} {F0 : List Nat} {L L' : List Asrt} {K : Act → World → Prop}
theorem gate_box {t : TypeId} {x : Operand} (_h : o.op = .box t x) (h : wpList P ops Q (o :: rest) a W) : wpList P ops Q (o :: rest) a W := h
theorem gate_alloc {t : TypeId} (_h : o.op = .alloc t) (h : wpList P ops Q (o :: rest) a W) : wpList P ops Q (o :: rest) a W := h
theorem gate_load {t : TypeId} {x : Operand} (_h : o.op = .load t x) (h : wpList P ops Q (o :: rest) a W) : wpList P ops Q (o :: rest) a W := h
theorem gate_st {t : TypeId} {x y : Operand} (_h : o.op = .store t x y) (h : wpList P ops Q (o :: rest) a W) : wpList P ops Q (o :: rest) a W := h
/-- An operation's run, in a list; as one step of a region that draws; as one that may be taken first. -/
theorem wp_of_run {v : Value} {W' : World} (h : (execOp a.eval o).run P W = .ok (.value v) W') (hk : K (a.put o.dst v) W') : o.wp P a W K Q := by
  unfold Oper.wp
  rw [h]
  exact hk
theorem wp_of_skip {W' : World} (h : (execOp a.eval o).run P W = .ok .skip W') (hk : K (a.put o.dst undef) W') : o.wp P a W K Q := by
  unfold Oper.wp
  rw [h]
  exact hk
theorem wpList_of_skip {W' : World} (hw : Region.wanted o (yielded ops a.tmps) = true) (h : (execOp a.eval o).run P W = .ok .skip W') (hk : wpList P ops Q rest (a.put o.dst undef) W') : wpList P ops Q (o :: rest) a W :=
  wpList_step fun K hK => by
    rw [if_pos hw]
    exact wp_of_skip h (hK _ _ hk)
theorem step_of_skip {W' : World} (hw : Region.wanted o (yielded ops a.tmps) = true) (h : (execOp a.eval o).run P W = .ok .skip W') (hk : K (a.put o.dst undef) W') : if Region.wanted o (yielded ops a.tmps) = true then Oper.wp P o a W K Q else K (a.put o.dst undef) W := by
  rw [if_pos hw]
  exact wp_of_skip h hk
theorem wpList_of_run {v : Value} {W' : World} (hw : Region.wanted o (yielded ops a.tmps) = true) (h : (execOp a.eval o).run P W = .ok (.value v) W') (hk : wpList P ops Q rest (a.put o.dst v) W') : wpList P ops Q (o :: rest) a W :=
  wpList_step fun K hK => by
    rw [if_pos hw]
    exact wp_of_run h (hK _ _ hk)
theorem step_of_run {v : Value} {W' : World} (hw : Region.wanted o (yielded ops a.tmps) = true) (h : (execOp a.eval o).run P W = .ok (.value v) W') (hk : K (a.put o.dst v) W') : if Region.wanted o (yielded ops a.tmps) = true then Oper.wp P o a W K Q else K (a.put o.dst undef) W := by
  rw [if_pos hw]
  exact wp_of_run h hk
theorem yields_of_run {v : Value} {S : World → Prop} (hw : Region.wanted o (yielded ops a.tmps) = true) (h : ∀ w, S w → (execOp a.eval o).run P w = .ok (.value v) w) : YieldsIf P ops S o v a := .inl ⟨hw, h⟩

theorem run_sbox (S : Sep F0 w0 L W) (t : TypeId) (x : Operand) (ho : o.op = .box t x) (n : Nat) (cs : List Value) (hx : (a.eval x).cells = cs.toArray) (hn : cs.length = n) :
    ∃ g w1, W.heap.size ≤ g ∧ Sep F0 w0 (aBox g t n cs :: L) w1 ∧ (execOp a.eval o).run P W = .ok (.value (.pointer (some ⟨g, 0, none⟩))) w1 := by
  refine ⟨W.heap.size, W.alloc (.cells cs.toArray t), Nat.le_refl _, S.new (aBox W.heap.size t n cs) ⟨⟨heap_alloc_new W _⟩, hn⟩ (by simp [aBox]) (fun q hq => by rw [List.mem_singleton.1 hq]; exact Nat.le_refl _) ((Fr.refl W).alloc _), ?_⟩
  unfold execOp
  rw [ho]
  simp only [Instr.box, newVar, hx]
  go_simp
theorem run_salloc (S : Sep F0 w0 L W) (t : TypeId) (ho : o.op = .alloc t) (z : Value) (hz : (zeroValue t).run P W = .ok z W) (n : Nat) (cs : List Value) (hc : z.cells = cs.toArray) (hn : cs.length = n) :
    ∃ g w1, W.heap.size ≤ g ∧ Sep F0 w0 (aBox g t n cs :: L) w1 ∧ (execOp a.eval o).run P W = .ok (.value (.pointer (some ⟨g, 0, none⟩))) w1 := by
  refine ⟨W.heap.size, W.alloc (.cells cs.toArray t), Nat.le_refl _, S.new (aBox W.heap.size t n cs) ⟨⟨heap_alloc_new W _⟩, hn⟩ (by simp [aBox]) (fun q hq => by rw [List.mem_singleton.1 hq]; exact Nat.le_refl _) ((Fr.refl W).alloc _), ?_⟩
  unfold execOp
  rw [ho]
  simp only [Instr.alloc, Sem.run_bind, hz, Result.andThen_ok, newVar, hc]
  go_simp
theorem run_spart (S : Sep F0 w0 L W) (ty : TypeId) (x : Operand) (ho : o.op = .load ty x) {g j : Nat} (hx : a.eval x = .pointer (some ⟨g, j, none⟩)) {t n m : Nat} {cs : List Value} (hm : aBox g t n cs ∈ L) (d : TypeDesc)
    (hu : P.underlying ty = some d) (hd : (match d with | .struct _ | .array _ _ => true | _ => false) = true) (hi : (P.info? ty).map (·.size) = some m) (hj : j + m ≤ n) (vs : List Value) (hv : (cs.drop j).take m = vs) :
    (execOp a.eval o).run P W = .ok (.value (.agg vs.toArray)) W := by
  have hl := (S.ok _ hm).2
  have hr := run_loadVar_part (P := P) W g j m t ty cs.toArray d (S.box hm).blk hu hd hi (by simp; omega)
  have he : cs.toArray.extract j (j + m) = vs.toArray := by rw [← hv]; simp
  rw [he] at hr
  unfold execOp
  simp only [ho, hx, Instr.loadAt, Instr.sureAddr, Sem.run_bind, Sem.run_pure, Result.andThen_ok, hr]
theorem run_sload (S : Sep F0 w0 L W) (ty : TypeId) (x : Operand) (ho : o.op = .load ty x) {g : Nat} (hx : a.eval x = .pointer (some ⟨g, 0, none⟩)) {t n : Nat} {cs : List Value} (hm : aBox g t n cs ∈ L) (d : TypeDesc)
    (hu : P.underlying ty = some d) (hd : (match d with | .struct _ | .array _ _ => true | _ => false) = true) (hi : (P.info? ty).map (·.size) = some n) :
    (execOp a.eval o).run P W = .ok (.value (.agg cs.toArray)) W :=
  run_spart S ty x ho hx hm d hu hd hi (by omega) cs (by rw [List.drop_zero, ← (S.ok _ hm).2, List.take_length])
theorem run_sload1 (S : Sep F0 w0 L W) (ty : TypeId) (x : Operand) (ho : o.op = .load ty x) {g j : Nat} (hx : a.eval x = .pointer (some ⟨g, j, none⟩)) {t n : Nat} {cs : List Value} (hm : aBox g t n cs ∈ L) (d : TypeDesc)
    (hu : P.underlying ty = some d) (hd : (match d with | .struct _ | .array _ _ => true | _ => false) = false) (v : Value) (hv : cs[j]? = some v) :
    (execOp a.eval o).run P W = .ok (.value v) W := by
  have hc := S.cells hm j
  rw [List.getElem?_toArray, hv] at hc
  have hagg : (isAgg ty).run P W = .ok false W := by
    unfold isAgg
    rw [Sem.run_bind, run_underlying hu W]
    cases d <;> simp_all
  unfold execOp
  simp [ho, hx, Instr.loadAt, Instr.sureAddr, Sem.run_bind, Sem.run_pure, Result.andThen_ok, loadVar, hagg, run_load, hc]
theorem run_bstore {g t j n : Nat} {cs : Array Value} (k : Box W g t cs) (ty : TypeId) (x y : Operand) (ho : o.op = .store ty x y) (hx : a.eval x = .pointer (some ⟨g, j, none⟩)) (vs : Array Value) (hvs : (a.eval y).cells = vs) (hvn : vs.size = n)
    (hi : (P.info? ty).map (·.size) = some n) (hn : j + n ≤ cs.size) (h1 : ∀ u ∈ vs.toList, u.oneCell' = true) (cs' : Array Value) (hv : (cs.toList.take j ++ vs.toList ++ cs.toList.drop (j + n)).toArray = cs') :
    ∃ w1, Box w1 g t cs' ∧ Chg [g] W w1 ∧ (execOp a.eval o).run P W = .ok .skip w1 := by
  have hr := run_storeCells_at P g j t vs.toList 0 cs W k.blk (by rw [Array.length_toList]; omega) h1
  have hnl : vs.toList.length = n := by simp [hvn]
  rw [Nat.add_zero, hnl, hv] at hr
  obtain ⟨b1, b2⟩ := setRow_box k cs'
  refine ⟨_, b1, b2, ?_⟩
  cases hq : P.info? ty with
  | none => simp [hq] at hi
  | some i =>
    have hs : i.size = n := by simpa [hq] using hi
    unfold execOp
    simp [ho, hx, Instr.storeAt, Instr.sureAddr, storeVar, sizeOf, typeInfo, hq, hvs, hvn, hs, hr]
theorem run_sputp (S : Sep F0 w0 L W) (ty : TypeId) (x y : Operand) (ho : o.op = .store ty x y) {g j : Nat} (hx : a.eval x = .pointer (some ⟨g, j, none⟩)) (ls : List Value) (hy : (a.eval y).cells = ls.toArray) {t n m : Nat} {cs cs' : List Value}
    (hm : aBox g t n cs ∈ L) (hi : (P.info? ty).map (·.size) = some m) (hl : ls.length = m) (h1 : ∀ u ∈ ls, u.oneCell' = true) (hj : j + m ≤ n) (hv : cs.take j ++ (ls ++ cs.drop (j + m)) = cs') (hp : Put L (aBox g t n cs) (aBox g t n cs') L') :
    ∃ w1, Sep F0 w0 L' w1 ∧ (execOp a.eval o).run P W = .ok .skip w1 := by
  have hn := (S.ok _ hm).2
  obtain ⟨w1, k, c, hr⟩ := run_bstore (P := P) (o := o) (a := a) (S.box hm) ty x y ho hx ls.toArray hy (by simpa using hl) hi (by rw [List.size_toArray, hn]; exact hj) (by simpa using h1) cs'.toArray (by rw [← hv]; simp)
  refine ⟨w1, S.put hp rfl ⟨k, ?_⟩ c, hr⟩
  rw [← hv]
  simp
  omega
theorem run_sput (S : Sep F0 w0 L W) (ty : TypeId) (x y : Operand) (ho : o.op = .store ty x y) {g : Nat} (hx : a.eval x = .pointer (some ⟨g, 0, none⟩)) (ls : List Value) (hy : (a.eval y).cells = ls.toArray) {t n : Nat} {cs : List Value}
    (hp : Put L (aBox g t n cs) (aBox g t n ls) L') (hi : (P.info? ty).map (·.size) = some n) (hl : ls.length = n) (h1 : ∀ u ∈ ls, u.oneCell' = true) :
    ∃ w1, Sep F0 w0 L' w1 ∧ (execOp a.eval o).run P W = .ok .skip w1 := by
  have hm : aBox g t n cs ∈ L := by
    obtain ⟨A, B, rfl, rfl⟩ := hp.parts
    simp
  exact run_sputp S ty x y ho hx ls hy hm hi hl h1 (by omega) (by rw [List.take_zero, List.nil_append, List.drop_eq_nil_of_le (by rw [(S.ok _ hm).2]; omega), List.append_nil]) hp
theorem run_sput1 (S : Sep F0 w0 L W) (ty : TypeId) (x y : Operand) (ho : o.op = .store ty x y) {g j : Nat} (hx : a.eval x = .pointer (some ⟨g, j, none⟩)) (v : Value) (hy : (a.eval y).cells = [v].toArray) {t n : Nat} {cs cs' : List Value}
    (hm : aBox g t n cs ∈ L) (h1 : v.oneCell' = true) (hi : (P.info? ty).map (·.size) = some 1) (hj : j < n) (hv : cs.set j v = cs') (hp : Put L (aBox g t n cs) (aBox g t n cs') L') :
    ∃ w1, Sep F0 w0 L' w1 ∧ (execOp a.eval o).run P W = .ok .skip w1 :=
  run_sputp S ty x y ho hx [v] hy hm hi rfl (one_cons h1 one_nil) (by omega) (by rw [← hv, List.set_eq_take_append_cons_drop, if_pos (by rw [(S.ok _ hm).2]; exact hj)]; rfl) hp

theorem wpList_sbox (S : Sep F0 w0 L W) (hw : Region.wanted o (yielded ops a.tmps) = true) (t : TypeId) (x : Operand) (ho : o.op = .box t x) (n : Nat) (cs : List Value) (hx : (a.eval x).cells = cs.toArray) (hn : cs.length = n)
    (h : ∀ g w1, W.heap.size ≤ g → Sep F0 w0 (aBox g t n cs :: L) w1 → wpList P ops Q rest (a.put o.dst (.pointer (some ⟨g, 0, none⟩))) w1) : wpList P ops Q (o :: rest) a W := by
  obtain ⟨g, w1, hg, S1, hr⟩ := run_sbox (P := P) (o := o) (a := a) S t x ho n cs hx hn
  exact wpList_of_run hw hr (h g w1 hg S1)
theorem step_sbox (S : Sep F0 w0 L W) (hw : Region.wanted o (yielded ops a.tmps) = true) (t : TypeId) (x : Operand) (ho : o.op = .box t x) (n : Nat) (cs : List Value) (hx : (a.eval x).cells = cs.toArray) (hn : cs.length = n)
    (h : ∀ g w1, W.heap.size ≤ g → Sep F0 w0 (aBox g t n cs :: L) w1 → K (a.put o.dst (.pointer (some ⟨g, 0, none⟩))) w1) : if Region.wanted o (yielded ops a.tmps) = true then Oper.wp P o a W K Q else K (a.put o.dst undef) W := by
  obtain ⟨g, w1, hg, S1, hr⟩ := run_sbox (P := P) (o := o) (a := a) S t x ho n cs hx hn
  exact step_of_run hw hr (h g w1 hg S1)
theorem wpList_salloc (S : Sep F0 w0 L W) (hw : Region.wanted o (yielded ops a.tmps) = true) (t : TypeId) (ho : o.op = .alloc t) (z : Value) (hz : (zeroValue t).run P W = .ok z W) (n : Nat) (cs : List Value) (hc : z.cells = cs.toArray) (hn : cs.length = n)
    (h : ∀ g w1, W.heap.size ≤ g → Sep F0 w0 (aBox g t n cs :: L) w1 → wpList P ops Q rest (a.put o.dst (.pointer (some ⟨g, 0, none⟩))) w1) : wpList P ops Q (o :: rest) a W := by
  obtain ⟨g, w1, hg, S1, hr⟩ := run_salloc (P := P) (o := o) (a := a) S t ho z hz n cs hc hn
  exact wpList_of_run hw hr (h g w1 hg S1)
theorem step_salloc (S : Sep F0 w0 L W) (hw : Region.wanted o (yielded ops a.tmps) = true) (t : TypeId) (ho : o.op = .alloc t) (z : Value) (hz : (zeroValue t).run P W = .ok z W) (n : Nat) (cs : List Value) (hc : z.cells = cs.toArray) (hn : cs.length = n)
    (h : ∀ g w1, W.heap.size ≤ g → Sep F0 w0 (aBox g t n cs :: L) w1 → K (a.put o.dst (.pointer (some ⟨g, 0, none⟩))) w1) : if Region.wanted o (yielded ops a.tmps) = true then Oper.wp P o a W K Q else K (a.put o.dst undef) W := by
  obtain ⟨g, w1, hg, S1, hr⟩ := run_salloc (P := P) (o := o) (a := a) S t ho z hz n cs hc hn
  exact step_of_run hw hr (h g w1 hg S1)
theorem wpList_sload (S : Sep F0 w0 L W) (hw : Region.wanted o (yielded ops a.tmps) = true) (ty : TypeId) (x : Operand) (ho : o.op = .load ty x) {g : Nat} (hx : a.eval x = .pointer (some ⟨g, 0, none⟩)) {t n : Nat} {cs : List Value} (hm : aBox g t n cs ∈ L) (d : TypeDesc) (hu : P.underlying ty = some d) (hd : (match d with | .struct _ | .array _ _ => true | _ => false) = true) (hi : (P.info? ty).map (·.size) = some n)
    (h : wpList P ops Q rest (a.put o.dst (.agg cs.toArray)) W) : wpList P ops Q (o :: rest) a W := wpList_of_run hw (run_sload S ty x ho hx hm d hu hd hi) h
theorem step_sload (S : Sep F0 w0 L W) (hw : Region.wanted o (yielded ops a.tmps) = true) (ty : TypeId) (x : Operand) (ho : o.op = .load ty x) {g : Nat} (hx : a.eval x = .pointer (some ⟨g, 0, none⟩)) {t n : Nat} {cs : List Value} (hm : aBox g t n cs ∈ L) (d : TypeDesc) (hu : P.underlying ty = some d) (hd : (match d with | .struct _ | .array _ _ => true | _ => false) = true) (hi : (P.info? ty).map (·.size) = some n)
    (h : K (a.put o.dst (.agg cs.toArray)) W) : if Region.wanted o (yielded ops a.tmps) = true then Oper.wp P o a W K Q else K (a.put o.dst undef) W := step_of_run hw (run_sload S ty x ho hx hm d hu hd hi) h
theorem yields_sload (hw : Region.wanted o (yielded ops a.tmps) = true) (ty : TypeId) (x : Operand) (ho : o.op = .load ty x) {g : Nat} (hx : a.eval x = .pointer (some ⟨g, 0, none⟩)) {t n : Nat} {cs : List Value} (hm : aBox g t n cs ∈ L) (d : TypeDesc) (hu : P.underlying ty = some d) (hd : (match d with | .struct _ | .array _ _ => true | _ => false) = true) (hi : (P.info? ty).map (·.size) = some n) : YieldsIf P ops (Sep F0 w0 L) o (.agg cs.toArray) a := yields_of_run hw fun w S => run_sload S ty x ho hx hm d hu hd hi
theorem wpList_spart (S : Sep F0 w0 L W) (hw : Region.wanted o (yielded ops a.tmps) = true) (ty : TypeId) (x : Operand) (ho : o.op = .load ty x) {g j : Nat} (hx : a.eval x = .pointer (some ⟨g, j, none⟩)) {t n m : Nat} {cs : List Value} (hm : aBox g t n cs ∈ L) (d : TypeDesc) (hu : P.underlying ty = some d) (hd : (match d with | .struct _ | .array _ _ => true | _ => false) = true) (hi : (P.info? ty).map (·.size) = some m) (hj : j + m ≤ n) (vs : List Value) (hv : (cs.drop j).take m = vs)
    (h : wpList P ops Q rest (a.put o.dst (.agg vs.toArray)) W) : wpList P ops Q (o :: rest) a W := wpList_of_run hw (run_spart S ty x ho hx hm d hu hd hi hj vs hv) h
theorem step_spart (S : Sep F0 w0 L W) (hw : Region.wanted o (yielded ops a.tmps) = true) (ty : TypeId) (x : Operand) (ho : o.op = .load ty x) {g j : Nat} (hx : a.eval x = .pointer (some ⟨g, j, none⟩)) {t n m : Nat} {cs : List Value} (hm : aBox g t n cs ∈ L) (d : TypeDesc) (hu : P.underlying ty = some d) (hd : (match d with | .struct _ | .array _ _ => true | _ => false) = true) (hi : (P.info? ty).map (·.size) = some m) (hj : j + m ≤ n) (vs : List Value) (hv : (cs.drop j).take m = vs)
    (h : K (a.put o.dst (.agg vs.toArray)) W) : if Region.wanted o (yielded ops a.tmps) = true then Oper.wp P o a W K Q else K (a.put o.dst undef) W := step_of_run hw (run_spart S ty x ho hx hm d hu hd hi hj vs hv) h
theorem yields_spart (hw : Region.wanted o (yielded ops a.tmps) = true) (ty : TypeId) (x : Operand) (ho : o.op = .load ty x) {g j : Nat} (hx : a.eval x = .pointer (some ⟨g, j, none⟩)) {t n m : Nat} {cs : List Value} (hm : aBox g t n cs ∈ L) (d : TypeDesc) (hu : P.underlying ty = some d) (hd : (match d with | .struct _ | .array _ _ => true | _ => false) = true) (hi : (P.info? ty).map (·.size) = some m) (hj : j + m ≤ n) (vs : List Value) (hv : (cs.drop j).take m = vs) : YieldsIf P ops (Sep F0 w0 L) o (.agg vs.toArray) a := yields_of_run hw fun w S => run_spart S ty x ho hx hm d hu hd hi hj vs hv
theorem wpList_sload1 (S : Sep F0 w0 L W) (hw : Region.wanted o (yielded ops a.tmps) = true) (ty : TypeId) (x : Operand) (ho : o.op = .load ty x) {g j : Nat} (hx : a.eval x = .pointer (some ⟨g, j, none⟩)) {t n : Nat} {cs : List Value} (hm : aBox g t n cs ∈ L) (d : TypeDesc) (hu : P.underlying ty = some d) (hd : (match d with | .struct _ | .array _ _ => true | _ => false) = false) (v : Value) (hv : cs[j]? = some v)
    (h : wpList P ops Q rest (a.put o.dst v) W) : wpList P ops Q (o :: rest) a W := wpList_of_run hw (run_sload1 S ty x ho hx hm d hu hd v hv) h
theorem step_sload1 (S : Sep F0 w0 L W) (hw : Region.wanted o (yielded ops a.tmps) = true) (ty : TypeId) (x : Operand) (ho : o.op = .load ty x) {g j : Nat} (hx : a.eval x = .pointer (some ⟨g, j, none⟩)) {t n : Nat} {cs : List Value} (hm : aBox g t n cs ∈ L) (d : TypeDesc) (hu : P.underlying ty = some d) (hd : (match d with | .struct _ | .array _ _ => true | _ => false) = false) (v : Value) (hv : cs[j]? = some v)
    (h : K (a.put o.dst v) W) : if Region.wanted o (yielded ops a.tmps) = true then Oper.wp P o a W K Q else K (a.put o.dst undef) W := step_of_run hw (run_sload1 S ty x ho hx hm d hu hd v hv) h
theorem yields_sload1 (hw : Region.wanted o (yielded ops a.tmps) = true) (ty : TypeId) (x : Operand) (ho : o.op = .load ty x) {g j : Nat} (hx : a.eval x = .pointer (some ⟨g, j, none⟩)) {t n : Nat} {cs : List Value} (hm : aBox g t n cs ∈ L) (d : TypeDesc) (hu : P.underlying ty = some d) (hd : (match d with | .struct _ | .array _ _ => true | _ => false) = false) (v : Value) (hv : cs[j]? = some v) : YieldsIf P ops (Sep F0 w0 L) o v a := yields_of_run hw fun w S => run_sload1 S ty x ho hx hm d hu hd v hv
theorem wpList_sput (S : Sep F0 w0 L W) (hw : Region.wanted o (yielded ops a.tmps) = true) (ty : TypeId) (x y : Operand) (ho : o.op = .store ty x y) {g : Nat} (hx : a.eval x = .pointer (some ⟨g, 0, none⟩)) (ls : List Value) (hy : (a.eval y).cells = ls.toArray) {t n : Nat} {cs : List Value} (hp : Put L (aBox g t n cs) (aBox g t n ls) L') (hi : (P.info? ty).map (·.size) = some n) (hl : ls.length = n) (h1 : ∀ u ∈ ls, u.oneCell' = true)
    (h : ∀ w1, Sep F0 w0 L' w1 → wpList P ops Q rest (a.put o.dst undef) w1) : wpList P ops Q (o :: rest) a W := by
  obtain ⟨w1, S1, hr⟩ := run_sput (P := P) (o := o) (a := a) S ty x y ho hx ls hy hp hi hl h1
  exact wpList_of_skip hw hr (h w1 S1)
theorem step_sput (S : Sep F0 w0 L W) (hw : Region.wanted o (yielded ops a.tmps) = true) (ty : TypeId) (x y : Operand) (ho : o.op = .store ty x y) {g : Nat} (hx : a.eval x = .pointer (some ⟨g, 0, none⟩)) (ls : List Value) (hy : (a.eval y).cells = ls.toArray) {t n : Nat} {cs : List Value} (hp : Put L (aBox g t n cs) (aBox g t n ls) L') (hi : (P.info? ty).map (·.size) = some n) (hl : ls.length = n) (h1 : ∀ u ∈ ls, u.oneCell' = true)
    (h : ∀ w1, Sep F0 w0 L' w1 → K (a.put o.dst undef) w1) : if Region.wanted o (yielded ops a.tmps) = true then Oper.wp P o a W K Q else K (a.put o.dst undef) W := by
  obtain ⟨w1, S1, hr⟩ := run_sput (P := P) (o := o) (a := a) S ty x y ho hx ls hy hp hi hl h1
  exact step_of_skip hw hr (h w1 S1)
theorem wpList_sputp (S : Sep F0 w0 L W) (hw : Region.wanted o (yielded ops a.tmps) = true) (ty : TypeId) (x y : Operand) (ho : o.op = .store ty x y) {g j : Nat} (hx : a.eval x = .pointer (some ⟨g, j, none⟩)) (ls : List Value) (hy : (a.eval y).cells = ls.toArray) {t n m : Nat} {cs cs' : List Value} (hm : aBox g t n cs ∈ L) (hi : (P.info? ty).map (·.size) = some m) (hl : ls.length = m) (h1 : ∀ u ∈ ls, u.oneCell' = true) (hj : j + m ≤ n) (hv : cs.take j ++ (ls ++ cs.drop (j + m)) = cs') (hp : Put L (aBox g t n cs) (aBox g t n cs') L')
    (h : ∀ w1, Sep F0 w0 L' w1 → wpList P ops Q rest (a.put o.dst undef) w1) : wpList P ops Q (o :: rest) a W := by
  obtain ⟨w1, S1, hr⟩ := run_sputp (P := P) (o := o) (a := a) S ty x y ho hx ls hy hm hi hl h1 hj hv hp
  exact wpList_of_skip hw hr (h w1 S1)
theorem step_sputp (S : Sep F0 w0 L W) (hw : Region.wanted o (yielded ops a.tmps) = true) (ty : TypeId) (x y : Operand) (ho : o.op = .store ty x y) {g j : Nat} (hx : a.eval x = .pointer (some ⟨g, j, none⟩)) (ls : List Value) (hy : (a.eval y).cells = ls.toArray) {t n m : Nat} {cs cs' : List Value} (hm : aBox g t n cs ∈ L) (hi : (P.info? ty).map (·.size) = some m) (hl : ls.length = m) (h1 : ∀ u ∈ ls, u.oneCell' = true) (hj : j + m ≤ n) (hv : cs.take j ++ (ls ++ cs.drop (j + m)) = cs') (hp : Put L (aBox g t n cs) (aBox g t n cs') L')
    (h : ∀ w1, Sep F0 w0 L' w1 → K (a.put o.dst undef) w1) : if Region.wanted o (yielded ops a.tmps) = true then Oper.wp P o a W K Q else K (a.put o.dst undef) W := by
  obtain ⟨w1, S1, hr⟩ := run_sputp (P := P) (o := o) (a := a) S ty x y ho hx ls hy hm hi hl h1 hj hv hp
  exact step_of_skip hw hr (h w1 S1)
theorem wpList_sput1 (S : Sep F0 w0 L W) (hw : Region.wanted o (yielded ops a.tmps) = true) (ty : TypeId) (x y : Operand) (ho : o.op = .store ty x y) {g j : Nat} (hx : a.eval x = .pointer (some ⟨g, j, none⟩)) (v : Value) (hy : (a.eval y).cells = [v].toArray) {t n : Nat} {cs cs' : List Value} (hm : aBox g t n cs ∈ L) (h1 : v.oneCell' = true) (hi : (P.info? ty).map (·.size) = some 1) (hj : j < n) (hv : cs.set j v = cs') (hp : Put L (aBox g t n cs) (aBox g t n cs') L')
    (h : ∀ w1, Sep F0 w0 L' w1 → wpList P ops Q rest (a.put o.dst undef) w1) : wpList P ops Q (o :: rest) a W := by
  obtain ⟨w1, S1, hr⟩ := run_sput1 (P := P) (o := o) (a := a) S ty x y ho hx v hy hm h1 hi hj hv hp
  exact wpList_of_skip hw hr (h w1 S1)
theorem step_sput1 (S : Sep F0 w0 L W) (hw : Region.wanted o (yielded ops a.tmps) = true) (ty : TypeId) (x y : Operand) (ho : o.op = .store ty x y) {g j : Nat} (hx : a.eval x = .pointer (some ⟨g, j, none⟩)) (v : Value) (hy : (a.eval y).cells = [v].toArray) {t n : Nat} {cs cs' : List Value} (hm : aBox g t n cs ∈ L) (h1 : v.oneCell' = true) (hi : (P.info? ty).map (·.size) = some 1) (hj : j < n) (hv : cs.set j v = cs') (hp : Put L (aBox g t n cs) (aBox g t n cs') L')
    (h : ∀ w1, Sep F0 w0 L' w1 → K (a.put o.dst undef) w1) : if Region.wanted o (yielded ops a.tmps) = true then Oper.wp P o a W K Q else K (a.put o.dst undef) W := by
  obtain ⟨w1, S1, hr⟩ := run_sput1 (P := P) (o := o) (a := a) S ty x y ho hx v hy hm h1 hi hj hv hp
  exact step_of_skip hw hr (h w1 S1)
end

/-! ## Rows of one-cell elements -/
section
variable {P : Program} {ops : Array Oper} {rest : List Oper} {o : Oper} {a : Act} {Q : Exit → Act → World → Prop} {W w0 : World} {F0 : List Nat} {L L' : List Asrt} {K : Act → World → Prop} {α : Type} {d : Ty α}
/-- A kind whose data are one cell each. -/
structure OneCell {α : Type} (d : Ty α) (f : α → Value) : Prop where
  sz : d.sz = 1
  own : ∀ {w x cs F}, d.own w x cs F ↔ cs = [f x] ∧ F = []
  one : ∀ x, (f x).oneCell' = true
theorem one_tInt : OneCell tInt (fun x => Value.int .i64 x) := ⟨rfl, Iff.rfl, fun _ => rfl⟩
theorem one_tBool : OneCell tBool (fun x => Value.bool x) := ⟨rfl, Iff.rfl, fun _ => rfl⟩
theorem OneCell.flat {f : α → Value} (hf : OneCell d f) : d.flat := fun h => (hf.own.1 h).2
theorem orow1_at {f : α → Value} (hf : OneCell d f) {w : World} {g n cap e k : Nat} {xs : List α} {F : List Nat} (h : d.orow e w (.slice (some ⟨g, 0, none⟩) n cap) xs F) (hk : k < xs.length) :
    g ∈ F ∧ w.cell? ⟨g, k, none⟩ = some (f xs[k]) ∧ w.frozen? ⟨g, k, none⟩ = false ∧ ∀ x, d.orow e (w.setCell ⟨g, k, none⟩ (f x)) (.slice (some ⟨g, 0, none⟩) n cap) (xs.set k x) F := by
  obtain ⟨ck, Fk, h2, h3, h4, _, _, h5, h6, _, h7⟩ := h.at_ (h.nodup hf.flat) hk
  obtain ⟨rfl, rfl⟩ := hf.own.1 h3
  have hz := hf.sz
  refine ⟨h4, ?_, h6 k, fun x => ?_⟩
  · have := h5 0 (by simp)
    simpa [hz] using this
  · have := h7 0 (f x) x (fun W hW => hf.own.2 ⟨rfl, rfl⟩) (by omega)
    simpa [hz] using this
theorem run_srowld {f : α → Value} (hf : OneCell d f) (S : Sep F0 w0 L W) (ty : TypeId) (x : Operand) (ho : o.op = .load ty x) {g i : Nat} (hx : a.eval x = .pointer (some ⟨g, i, none⟩)) {e n cap : Nat} {xs : List α} {F : List Nat} (hm : aRow d e xs (.slice (some ⟨g, 0, none⟩) n cap) F ∈ L) (hi : i < xs.length) (t : TypeDesc)
    (hu : P.underlying ty = some t) (hd : (match t with | .struct _ | .array _ _ => true | _ => false) = false) : (execOp a.eval o).run P W = .ok (.value (f xs[i])) W := by
  have hc := (orow1_at hf (S.row hm) hi).2.1
  have hagg : (isAgg ty).run P W = .ok false W := by
    unfold isAgg
    rw [Sem.run_bind, run_underlying hu W]
    cases t <;> simp_all
  unfold execOp
  simp [ho, hx, Instr.loadAt, Instr.sureAddr, Sem.run_bind, Sem.run_pure, Result.andThen_ok, loadVar, hagg, run_load, hc]
theorem run_srowst {f : α → Value} (hf : OneCell d f) (S : Sep F0 w0 L W) (ty : TypeId) (x y : Operand) (ho : o.op = .store ty x y) {g i : Nat} (hx : a.eval x = .pointer (some ⟨g, i, none⟩)) (z : α) (hy : a.eval y = f z) (hs : (P.info? ty).map (·.size) = some 1) {e n cap : Nat} {xs ys : List α} {F : List Nat}
    (hm : aRow d e xs (.slice (some ⟨g, 0, none⟩) n cap) F ∈ L) (hi : i < xs.length) (hv : xs.set i z = ys) (hp : Put L (aRow d e xs (.slice (some ⟨g, 0, none⟩) n cap) F) (aRow d e ys (.slice (some ⟨g, 0, none⟩) n cap) F) L') :
    ∃ w1, Sep F0 w0 L' w1 ∧ (execOp a.eval o).run P W = .ok .skip w1 := by
  subst hv
  obtain ⟨hg, hc, hz, hset⟩ := orow1_at hf (S.row hm) hi
  refine ⟨W.setCell ⟨g, i, none⟩ (f z), S.putRow hp (hset z) ((Chg.refl F W).set (.inl hg) _), ?_⟩
  have h1 : (f z).cells = #[f z] := cells_of_one (hf.one z)
  have ha : (⟨g, i, none⟩ : Addr).add 0 = ⟨g, i, none⟩ := rfl
  have hst : (store ⟨g, i, none⟩ (f z)).run P W = .ok () (W.setCell ⟨g, i, none⟩ (f z)) := by
    rw [run_store P W _ (f z) _ (hf.one z)]
    simp [stored, hc, hz]
  cases hq : P.info? ty with
  | none => simp [hq] at hs
  | some info =>
    have hn : info.size = 1 := by simpa [hq] using hs
    unfold execOp
    simp [ho, hx, hy, Instr.storeAt, Instr.sureAddr, storeVar, sizeOf, typeInfo, hq, hn, h1, storeCells, ha, hst]
/-- A new row of ints. -/
theorem run_sints (S : Sep F0 w0 L W) (e : Nat) (xs : List Int) (n : Nat) (hxs : xs.length = n) (hl : n ≤ 2097152) (hr : (execOp a.eval o).run P W = .ok (.value (.slice (some ⟨W.heap.size, 0, none⟩) n n)) (W.alloc (.cells (xs.map (Value.int .i64)).toArray e))) :
    ∃ g w1, W.heap.size ≤ g ∧ Sep F0 w0 (aRow tInt e xs (.slice (some ⟨g, 0, none⟩) n n) [g] :: L) w1 ∧ (execOp a.eval o).run P W = .ok (.value (.slice (some ⟨g, 0, none⟩) n n)) w1 := by
  subst hxs
  exact ⟨_, _, Nat.le_refl _, S.new (aRow tInt e xs _ [W.heap.size]) (orow_ints_lit e W xs hl) (by simp [aRow]) (fun q hq => by rw [List.mem_singleton.1 hq]; exact Nat.le_refl _) ((Fr.refl W).alloc _), hr⟩

theorem wpList_srowld {f : α → Value} (hf : OneCell d f) (S : Sep F0 w0 L W) (hw : Region.wanted o (yielded ops a.tmps) = true) (ty : TypeId) (x : Operand) (ho : o.op = .load ty x) {g i : Nat} (hx : a.eval x = .pointer (some ⟨g, i, none⟩)) {e n cap : Nat} {xs : List α} {F : List Nat} (hm : aRow d e xs (.slice (some ⟨g, 0, none⟩) n cap) F ∈ L) (hi : i < xs.length) (t : TypeDesc) (hu : P.underlying ty = some t) (hd : (match t with | .struct _ | .array _ _ => true | _ => false) = false)
    (h : wpList P ops Q rest (a.put o.dst (f xs[i])) W) : wpList P ops Q (o :: rest) a W := wpList_of_run hw (run_srowld hf S ty x ho hx hm hi t hu hd) h
theorem step_srowld {f : α → Value} (hf : OneCell d f) (S : Sep F0 w0 L W) (hw : Region.wanted o (yielded ops a.tmps) = true) (ty : TypeId) (x : Operand) (ho : o.op = .load ty x) {g i : Nat} (hx : a.eval x = .pointer (some ⟨g, i, none⟩)) {e n cap : Nat} {xs : List α} {F : List Nat} (hm : aRow d e xs (.slice (some ⟨g, 0, none⟩) n cap) F ∈ L) (hi : i < xs.length) (t : TypeDesc) (hu : P.underlying ty = some t) (hd : (match t with | .struct _ | .array _ _ => true | _ => false) = false)
    (h : K (a.put o.dst (f xs[i])) W) : if Region.wanted o (yielded ops a.tmps) = true then Oper.wp P o a W K Q else K (a.put o.dst undef) W := step_of_run hw (run_srowld hf S ty x ho hx hm hi t hu hd) h
theorem yields_srowld {f : α → Value} (hf : OneCell d f) (hw : Region.wanted o (yielded ops a.tmps) = true) (ty : TypeId) (x : Operand) (ho : o.op = .load ty x) {g i : Nat} (hx : a.eval x = .pointer (some ⟨g, i, none⟩)) {e n cap : Nat} {xs : List α} {F : List Nat} (hm : aRow d e xs (.slice (some ⟨g, 0, none⟩) n cap) F ∈ L) (hi : i < xs.length) (t : TypeDesc) (hu : P.underlying ty = some t) (hd : (match t with | .struct _ | .array _ _ => true | _ => false) = false) : YieldsIf P ops (Sep F0 w0 L) o (f xs[i]) a := yields_of_run hw fun w S => run_srowld hf S ty x ho hx hm hi t hu hd
theorem wpList_srowst {f : α → Value} (hf : OneCell d f) (S : Sep F0 w0 L W) (hw : Region.wanted o (yielded ops a.tmps) = true) (ty : TypeId) (x y : Operand) (ho : o.op = .store ty x y) {g i : Nat} (hx : a.eval x = .pointer (some ⟨g, i, none⟩)) (z : α) (hy : a.eval y = f z) (hs : (P.info? ty).map (·.size) = some 1) {e n cap : Nat} {xs ys : List α} {F : List Nat} (hm : aRow d e xs (.slice (some ⟨g, 0, none⟩) n cap) F ∈ L) (hi : i < xs.length) (hv : xs.set i z = ys) (hp : Put L (aRow d e xs (.slice (some ⟨g, 0, none⟩) n cap) F) (aRow d e ys (.slice (some ⟨g, 0, none⟩) n cap) F) L')
    (h : ∀ w1, Sep F0 w0 L' w1 → wpList P ops Q rest (a.put o.dst undef) w1) : wpList P ops Q (o :: rest) a W := by
  obtain ⟨w1, S1, hr⟩ := run_srowst (P := P) (o := o) (a := a) hf S ty x y ho hx z hy hs hm hi hv hp
  exact wpList_of_skip hw hr (h w1 S1)
theorem step_srowst {f : α → Value} (hf : OneCell d f) (S : Sep F0 w0 L W) (hw : Region.wanted o (yielded ops a.tmps) = true) (ty : TypeId) (x y : Operand) (ho : o.op = .store ty x y) {g i : Nat} (hx : a.eval x = .pointer (some ⟨g, i, none⟩)) (z : α) (hy : a.eval y = f z) (hs : (P.info? ty).map (·.size) = some 1) {e n cap : Nat} {xs ys : List α} {F : List Nat} (hm : aRow d e xs (.slice (some ⟨g, 0, none⟩) n cap) F ∈ L) (hi : i < xs.length) (hv : xs.set i z = ys) (hp : Put L (aRow d e xs (.slice (some ⟨g, 0, none⟩) n cap) F) (aRow d e ys (.slice (some ⟨g, 0, none⟩) n cap) F) L')
    (h : ∀ w1, Sep F0 w0 L' w1 → K (a.put o.dst undef) w1) : if Region.wanted o (yielded ops a.tmps) = true then Oper.wp P o a W K Q else K (a.put o.dst undef) W := by
  obtain ⟨w1, S1, hr⟩ := run_srowst (P := P) (o := o) (a := a) hf S ty x y ho hx z hy hs hm hi hv hp
  exact step_of_skip hw hr (h w1 S1)
theorem wpList_sints  (S : Sep F0 w0 L W) (hw : Region.wanted o (yielded ops a.tmps) = true) (e : Nat) (xs : List Int) (n : Nat) (hxs : xs.length = n) (hl : n ≤ 2097152) (hr : (execOp a.eval o).run P W = .ok (.value (.slice (some ⟨W.heap.size, 0, none⟩) n n)) (W.alloc (.cells (xs.map (Value.int .i64)).toArray e)))
    (h : ∀ g w1, W.heap.size ≤ g → Sep F0 w0 (aRow tInt e xs (.slice (some ⟨g, 0, none⟩) n n) [g] :: L) w1 → wpList P ops Q rest (a.put o.dst (.slice (some ⟨g, 0, none⟩) n n)) w1) : wpList P ops Q (o :: rest) a W := by
  obtain ⟨g, w1, hg, S1, hr⟩ := run_sints (P := P) (o := o) (a := a) S e xs n hxs hl hr
  exact wpList_of_run hw hr (h g w1 hg S1)
theorem step_sints  (S : Sep F0 w0 L W) (hw : Region.wanted o (yielded ops a.tmps) = true) (e : Nat) (xs : List Int) (n : Nat) (hxs : xs.length = n) (hl : n ≤ 2097152) (hr : (execOp a.eval o).run P W = .ok (.value (.slice (some ⟨W.heap.size, 0, none⟩) n n)) (W.alloc (.cells (xs.map (Value.int .i64)).toArray e)))
    (h : ∀ g w1, W.heap.size ≤ g → Sep F0 w0 (aRow tInt e xs (.slice (some ⟨g, 0, none⟩) n n) [g] :: L) w1 → K (a.put o.dst (.slice (some ⟨g, 0, none⟩) n n)) w1) : if Region.wanted o (yielded ops a.tmps) = true then Oper.wp P o a W K Q else K (a.put o.dst undef) W := by
  obtain ⟨g, w1, hg, S1, hr⟩ := run_sints (P := P) (o := o) (a := a) S e xs n hxs hl hr
  exact step_of_run hw hr (h g w1 hg S1)
end

/-! ## What a call hands back out of a box -/
section
variable {P : Program} {fn : Func} {Post : Ending → World → Prop} {a : Act} {w w0 : World} {F0 : List Nat} {L : List Asrt} {p ty g t n : Nat} {cs : List Value} {d : TypeDesc}
theorem Sep.ret1 (S : Sep F0 w0 L w) (h : fn.results = #[.cell p ty]) (hp : a.tmps.getD p undef = .pointer (some ⟨g, 0, none⟩)) (hm : aBox g t n cs ∈ L)
    (hu : P.underlying ty = some d) (hd : (match d with | .struct _ | .array _ _ => true | _ => false) = true) (hi : (P.info? ty).map (·.size) = some n) (hf : a.defers = []) (post : Post (.returned (.agg cs.toArray)) w) : bodyPost P fn Post .ret a w := by
  have hn := (S.ok _ hm).2
  subst hn
  exact bodyPost_ret (results_cell_row h _ _ g _ cs.toArray _ _ hp (S.box hm).blk hu hd (by rw [hi]; simp)) hf post
theorem Sep.ret1_1 {u1 : Tmp} {x1 : Value} (S : Sep F0 w0 L w) (h : fn.results = #[.cell p ty, .tmp u1]) (hp : a.tmps.getD p undef = .pointer (some ⟨g, 0, none⟩)) (hm : aBox g t n cs ∈ L)
    (hu : P.underlying ty = some d) (hd : (match d with | .struct _ | .array _ _ => true | _ => false) = true) (hi : (P.info? ty).map (·.size) = some n) (hx1 : a.tmps.getD u1 undef = x1) (hf : a.defers = []) (post : Post (.returned (.tuple #[.agg cs.toArray, x1])) w) : bodyPost P fn Post .ret a w := by
  have hn := (S.ok _ hm).2
  subst hn
  refine bodyPost_ret (v := .tuple #[.agg cs.toArray, x1]) ?_ hf post
  have hl := run_loadVar_row (P := P) w g t ty cs.toArray (0, 0) d (S.box hm).blk hu hd (by rw [hi]; simp)
  simp only [Array.getD_eq_getD_getElem?] at hp hx1
  simp [results, h, hp, hx1, asAddr, hl, Sem.run_bind, Result.andThen]
theorem Sep.ret1_2 {u1 : Tmp} {x1 : Value} {u2 : Tmp} {x2 : Value} (S : Sep F0 w0 L w) (h : fn.results = #[.cell p ty, .tmp u1, .tmp u2]) (hp : a.tmps.getD p undef = .pointer (some ⟨g, 0, none⟩)) (hm : aBox g t n cs ∈ L)
    (hu : P.underlying ty = some d) (hd : (match d with | .struct _ | .array _ _ => true | _ => false) = true) (hi : (P.info? ty).map (·.size) = some n) (hx1 : a.tmps.getD u1 undef = x1) (hx2 : a.tmps.getD u2 undef = x2) (hf : a.defers = []) (post : Post (.returned (.tuple #[.agg cs.toArray, x1, x2])) w) : bodyPost P fn Post .ret a w := by
  have hn := (S.ok _ hm).2
  subst hn
  refine bodyPost_ret (v := .tuple #[.agg cs.toArray, x1, x2]) ?_ hf post
  have hl := run_loadVar_row (P := P) w g t ty cs.toArray (0, 0) d (S.box hm).blk hu hd (by rw [hi]; simp)
  simp only [Array.getD_eq_getD_getElem?] at hp hx1 hx2
  simp [results, h, hp, hx1, hx2, asAddr, hl, Sem.run_bind, Result.andThen]
theorem Sep.ret1_3 {u1 : Tmp} {x1 : Value} {u2 : Tmp} {x2 : Value} {u3 : Tmp} {x3 : Value} (S : Sep F0 w0 L w) (h : fn.results = #[.cell p ty, .tmp u1, .tmp u2, .tmp u3]) (hp : a.tmps.getD p undef = .pointer (some ⟨g, 0, none⟩)) (hm : aBox g t n cs ∈ L)
    (hu : P.underlying ty = some d) (hd : (match d with | .struct _ | .array _ _ => true | _ => false) = true) (hi : (P.info? ty).map (·.size) = some n) (hx1 : a.tmps.getD u1 undef = x1) (hx2 : a.tmps.getD u2 undef = x2) (hx3 : a.tmps.getD u3 undef = x3) (hf : a.defers = []) (post : Post (.returned (.tuple #[.agg cs.toArray, x1, x2, x3])) w) : bodyPost P fn Post .ret a w := by
  have hn := (S.ok _ hm).2
  subst hn
  refine bodyPost_ret (v := .tuple #[.agg cs.toArray, x1, x2, x3]) ?_ hf post
  have hl := run_loadVar_row (P := P) w g t ty cs.toArray (0, 0) d (S.box hm).blk hu hd (by rw [hi]; simp)
  simp only [Array.getD_eq_getD_getElem?] at hp hx1 hx2 hx3
  simp [results, h, hp, hx1, hx2, hx3, asAddr, hl, Sem.run_bind, Result.andThen]
theorem Sep.ret1_4 {u1 : Tmp} {x1 : Value} {u2 : Tmp} {x2 : Value} {u3 : Tmp} {x3 : Value} {u4 : Tmp} {x4 : Value} (S : Sep F0 w0 L w) (h : fn.results = #[.cell p ty, .tmp u1, .tmp u2, .tmp u3, .tmp u4]) (hp : a.tmps.getD p undef = .pointer (some ⟨g, 0, none⟩)) (hm : aBox g t n cs ∈ L)
    (hu : P.underlying ty = some d) (hd : (match d with | .struct _ | .array _ _ => true | _ => false) = true) (hi : (P.info? ty).map (·.size) = some n) (hx1 : a.tmps.getD u1 undef = x1) (hx2 : a.tmps.getD u2 undef = x2) (hx3 : a.tmps.getD u3 undef = x3) (hx4 : a.tmps.getD u4 undef = x4) (hf : a.defers = []) (post : Post (.returned (.tuple #[.agg cs.toArray, x1, x2, x3, x4])) w) : bodyPost P fn Post .ret a w := by
  have hn := (S.ok _ hm).2
  subst hn
  refine bodyPost_ret (v := .tuple #[.agg cs.toArray, x1, x2, x3, x4]) ?_ hf post
  have hl := run_loadVar_row (P := P) w g t ty cs.toArray (0, 0) d (S.box hm).blk hu hd (by rw [hi]; simp)
  simp only [Array.getD_eq_getD_getElem?] at hp hx1 hx2 hx3 hx4
  simp [results, h, hp, hx1, hx2, hx3, hx4, asAddr, hl, Sem.run_bind, Result.andThen]
end
theorem Sep.retOwn2 {α : Type} {d : Ty α} {x : α} {b : Bool} {cs : List Value} {F : List Nat} {w0 w : World} {L : List Asrt} (S : Sep [] w0 L w) (h : aOwn d x cs F ∈ L) : RetOwn2 d (x, b) w0 (.returned (.tuple #[.agg cs.toArray, .bool b])) w :=
  ⟨cs, F, rfl, S.own h, S.nodup h, S.low h, S.chg⟩
theorem Sep.retOwn3 {α : Type} {d : Ty α} {x : α} {n : Int} {b : Bool} {cs : List Value} {F : List Nat} {w0 w : World} {L : List Asrt} (S : Sep [] w0 L w) (h : aOwn d x cs F ∈ L) : RetOwn3 d x n b w0 (.returned (.tuple #[.agg cs.toArray, .int .i64 n, .bool b])) w :=
  ⟨cs, F, rfl, S.own h, S.nodup h, S.low h, S.chg⟩
/-! ## Short words -/
theorem memA {a : Asrt} {L : List Asrt} (h : a ∈ L := by (repeat (first | with_reducible exact List.mem_cons_self | with_reducible apply List.mem_cons_of_mem)) <;> fail) : a ∈ L := h
theorem putA {a a' : Asrt} {L L' : List Asrt} (h : Put L a a' L' := by (repeat (first | with_reducible exact Put.head _ _ _ | with_reducible apply Put.tail)) <;> fail) : Put L a a' L' := h
theorem delA {a : Asrt} {L L' : List Asrt} (h : Del L a L' := by (repeat (first | with_reducible exact Del.head _ _ | with_reducible apply Del.tail)) <;> fail) : Del L a L' := h
theorem subA {L L' : List Asrt} (h : L'.Sublist L := by (repeat (first | exact List.nil_sublist _ | exact List.Sublist.refl _ | with_reducible apply List.Sublist.cons_cons | apply List.Sublist.cons)) <;> fail) : L'.Sublist L := h
end Go.Proofs.YtphojlkljlnfjaaDoor
