/- DrawPacketRead: some text. -/
import Derived.Test.YtphojlkljlnfjaaDoorLawPacketOne
import Derived.Test.YtphojlkljlnfjaaDoorTxtCut
import Derived.Test.YtphojlkljlnfjaaDoorLc
namespace Go.Proofs.YtphojlkljlnfjaaDoor
set_option maxRecDepth 100000
set_option linter.unusedVariables false
set_option linter.unusedSimpArgs false
open Go.RowKit
def Some2 (g : Nat) (v : Value) (p : Nat) (w : World) : Ending → World → Prop := fun e w' => ∃ z : List UInt8, e = .returned (.string ⟨z.toArray⟩) ∧ z.length ≤ 2 ∧ Box w' g 63 #[v, .int .i64 (p + 1 : Nat)] ∧ Chg [g] w w'
set_option maxHeartbeats 1600000 in
theorem of_c (w0 w : World) (g : Nat) (v : Value) (bs : List Int) (p h : Nat) (kr : Box w g 63 #[v, .int .i64 p]) (f0 : Fr w0 w) (hg : w0.heap.size ≤ g) (hr : tByte.row w0 v bs) (hl : bs.length ≤ 2000) (hp : p ≤ 1000000) (kx : Box w h 9 #[.string ⟨#[48]⟩, .string ⟨#[32]⟩, .string ⟨#[49]⟩, .string ⟨#[120]⟩, .string ⟨#[32, 50]⟩]) (hne : h ≠ g) :
    Calls Tryd.prog 33 #[.pointer (some ⟨g, 0, none⟩), .slice (some ⟨h, 0, none⟩) 5 5] w (Some2 g v p w) := by
  go_enter Tryd.func33, Tryd.ntmps33
  go_wp2_with (go_at_call 32; go_loud (refine (pick_c w0 _ g v bs p 5 kr f0 hg hr hl hp (by omega) (by omega)).mono ?_); fail)
  refine (pick_c w0 _ g v bs p 5 kr f0 hg hr hl hp (by omega) (by omega)).mono ?_
  rintro e w9 ⟨x9, rfl, lo9, hi9, k9, c9⟩
  replace kx := kx.chg c9 (fun hm => hne (List.mem_singleton.1 hm))
  have KC := Lib.hid kx.cells
  rcases (show x9 = 0 ∨ x9 = 1 ∨ x9 = 2 ∨ x9 = 3 ∨ x9 = 4 by omega) with rfl | rfl | rfl | rfl | rfl
  · have hc : w9.cell? ⟨h, 0, none⟩ = some (.string ⟨#[48]⟩) := KC.out 0
    go_wp2_with ((with_reducible refine gate_dst (N := 11) rfl ?_); refine wpList_rowint rfl 9 _ rfl rfl hc _ Tryd.underlying9 rfl ?_)
    go_ret
    exact ⟨[48], rfl, by decide, k9, c9⟩
  · have hc : w9.cell? ⟨h, 1, none⟩ = some (.string ⟨#[32]⟩) := KC.out 1
    go_wp2_with ((with_reducible refine gate_dst (N := 11) rfl ?_); refine wpList_rowint rfl 9 _ rfl rfl hc _ Tryd.underlying9 rfl ?_)
    go_ret
    exact ⟨[32], rfl, by decide, k9, c9⟩
  · have hc : w9.cell? ⟨h, 2, none⟩ = some (.string ⟨#[49]⟩) := KC.out 2
    go_wp2_with ((with_reducible refine gate_dst (N := 11) rfl ?_); refine wpList_rowint rfl 9 _ rfl rfl hc _ Tryd.underlying9 rfl ?_)
    go_ret
    exact ⟨[49], rfl, by decide, k9, c9⟩
  · have hc : w9.cell? ⟨h, 3, none⟩ = some (.string ⟨#[120]⟩) := KC.out 3
    go_wp2_with ((with_reducible refine gate_dst (N := 11) rfl ?_); refine wpList_rowint rfl 9 _ rfl rfl hc _ Tryd.underlying9 rfl ?_)
    go_ret
    exact ⟨[120], rfl, by decide, k9, c9⟩
  · have hc : w9.cell? ⟨h, 4, none⟩ = some (.string ⟨#[32, 50]⟩) := KC.out 4
    go_wp2_with ((with_reducible refine gate_dst (N := 11) rfl ?_); refine wpList_rowint rfl 9 _ rfl rfl hc _ Tryd.underlying9 rfl ?_)
    go_ret
    exact ⟨[32, 50], rfl, by decide, k9, c9⟩
section
variable {ops : Array Oper} {o : Oper} {a : Act} {K : Act → World → Prop} {Q : Exit → Act → World → Prop} {W w0 : World} {F0 : List Nat} {L : List Asrt} {T : World → Prop}
theorem rgStr5 (S : Sep F0 w0 L W) (h : ∀ (g : Nat) w1, W.heap.size ≤ g → Sep F0 w0 (aBox g 9 5 [.string ⟨#[48]⟩, .string ⟨#[32]⟩, .string ⟨#[49]⟩, .string ⟨#[120]⟩, .string ⟨#[32, 50]⟩] :: L) w1 → K (a.put o.dst (.slice (some ⟨g, 0, none⟩) 5 5)) w1) (hw : Region.wanted o (yielded ops a.tmps) = true := by exact rfl)
    (hr : (execOp a.eval o).run Tryd.prog W = .ok (.value (.slice (some ⟨W.heap.size, 0, none⟩) 5 5)) (W.alloc (.cells #[.string ⟨#[48]⟩, .string ⟨#[32]⟩, .string ⟨#[49]⟩, .string ⟨#[120]⟩, .string ⟨#[32, 50]⟩] 9)) := by first | (go_simp; done) | (go_simp; rfl)) : if Region.wanted o (yielded ops a.tmps) = true then Oper.wp Tryd.prog o a W K Q else K (a.put o.dst undef) W :=
  step_of_run hw hr (h _ _ (Nat.le_refl _) (S.new (aBox W.heap.size 9 5 [.string ⟨#[48]⟩, .string ⟨#[32]⟩, .string ⟨#[49]⟩, .string ⟨#[120]⟩, .string ⟨#[32, 50]⟩]) ⟨⟨heap_alloc_new W _⟩, rfl⟩ (by simp [aBox]) (fun q hq => by rw [List.mem_singleton.1 hq]; exact Nat.le_refl _) ((Fr.refl W).alloc _)))
theorem yTake {l : List UInt8} {x y : Operand} {n : Nat} {m : Int} (hm : m = n) (hn : n ≤ l.length) (hw : Region.wanted o (yielded ops a.tmps) = true := by exact rfl) (ho : o.op = .slice 9 x none (some y) none := by exact rfl) (hx : a.eval x = .string ⟨l.toArray⟩ := by exact rfl) (hy : a.eval y = .int .i64 m := by exact rfl) : YieldsIf Tryd.prog ops T o (.string ⟨(l.take n).toArray⟩) a := by
  subst hm
  refine yields_of_run hw fun w _ => ?_
  have hs : (⟨l.toArray⟩ : ByteArray).size = l.length := by simp [ByteArray.size]
  unfold execOp
  simp only [ho, hx, Sem.run_bind, Option.map, hy]
  have hrun : (Instr.sliceAt 9 (.string ⟨l.toArray⟩) none (some (.int .i64 n)) none).run Tryd.prog w = .ok (.string ⟨(l.take n).toArray⟩) w := by
    unfold Instr.sliceAt
    simp only [Sem.run_bind, run_underlying Tryd.underlying9, Result.andThen_ok]
    rw [run_slice_string_to_if (h := Tryd.underlying9), if_pos (by rw [hs]; omega), Int.toNat_natCast, extract_take]
  rw [hrun]
  rfl
theorem yDrop {l : List UInt8} {x y : Operand} {n : Nat} {m : Int} (hm : m = n) (hn : n ≤ l.length) (hw : Region.wanted o (yielded ops a.tmps) = true := by exact rfl) (ho : o.op = .slice 9 x (some y) none none := by exact rfl) (hx : a.eval x = .string ⟨l.toArray⟩ := by exact rfl) (hy : a.eval y = .int .i64 m := by exact rfl) : YieldsIf Tryd.prog ops T o (.string ⟨(l.drop n).toArray⟩) a := by
  subst hm
  refine yields_of_run hw fun w _ => ?_
  have hs : (⟨l.toArray⟩ : ByteArray).size = l.length := by simp [ByteArray.size]
  unfold execOp
  simp only [ho, hx, Sem.run_bind, Option.map, hy]
  have hrun : (Instr.sliceAt 9 (.string ⟨l.toArray⟩) (some (.int .i64 n)) none none).run Tryd.prog w = .ok (.string ⟨(l.drop n).toArray⟩) w := by
    unfold Instr.sliceAt
    simp only [Sem.run_bind, run_underlying Tryd.underlying9, Result.andThen_ok]
    rw [run_slice_string_from_if (h := Tryd.underlying9), if_pos (by rw [hs]; omega), Int.toNat_natCast, hs, extract_drop]
  rw [hrun]
  rfl
end
def RetStr (w : World) : Ending → World → Prop := fun e w' => ∃ z : List UInt8, e = .returned (.string ⟨z.toArray⟩) ∧ Fr w w'
theorem RetStr.of {w w' : World} (b : ByteArray) (f : Fr w w') : RetStr w (.returned (.string b)) w' := by
  obtain ⟨⟨l⟩⟩ := b
  exact ⟨l, rfl, f⟩
theorem txtV_len2 (p : Pk) : (txtV p).length ≤ 20 := by
  cases e : okPk p with
  | true => unfold txtV; rw [e, if_pos rfl]; exact (txt_len (okPk_small e)).2
  | false => rw [txtV_no e]; simp
set_option maxHeartbeats 3200000 in
theorem DrawPacketRead_c (w : World) (v0 : Value) (bs0 : List Int) (h0 : tByte.row w v0 bs0) : Calls Tryd.prog 15 #[v0] w (RetStr w) := by
  have S := Sep.start w
  go_enter Tryd.func15, Tryd.ntmps15
  go_wp2_with (first
    | (go_at_call 20; go_loud ((with_reducible refine (l6Open_c _ v0 bs0 (h0.fr S.frame)).mono ?_); rintro e w9 ⟨g, v, bs, rfl, hg, kr, hr, hl, f9⟩; replace S := S.new (aBox g 63 2 [v, .int .i64 ((0 : Nat) : Int)]) ⟨kr, rfl⟩ (by simp [aBox]) (fun q hq => by rw [List.mem_singleton.1 hq]; exact hg) f9; clear kr f9))
    | (go_at_call 19; go_loud ((with_reducible refine (l71Packet_c w _ g v bs _ (S.box memA) S.frame hg hr hl (by omega)).mono ?_); rintro e w9 ⟨q, p', rfl, qok, hp', k9, c9⟩; replace S := S.putBox (n' := 2) (cs' := [v, .int .i64 ((_ : Nat) : Int)]) putA k9 rfl c9; clear k9 c9))
    | (go_at_call 11; go_loud ((with_reducible refine (sPacketText_p _ q).mono ?_); rintro e w9 ⟨rfl, f9⟩; replace S := S.fr f9; clear f9; have lw : IntKind.i64.wrap (((txtV q).length : Int) + 1) = ((txtV q).length : Int) + 1 := IntWalk.i64_in _ (by have := txtV_len2 q; omega); have HT := txtV_len2 q))
    | (go_at_call 32; (with_reducible refine (pick_c w _ g v bs _ (((txtV q).length : Int) + 1) (S.box memA) S.frame hg hr hl (by omega) (by omega) (by omega)).mono ?_); rintro e w9 ⟨x1, rfl, lox1, hix1, k9, c9⟩; replace S := S.putBox (n' := 2) (cs' := [v, .int .i64 ((_ : Nat) : Int)]) putA k9 rfl c9; clear k9 c9; (obtain ⟨m, hxm⟩ : ∃ m : Nat, x1 = (m : Int) := ⟨x1.toNat, by omega⟩); subst hxm; (have HM : m ≤ (txtV q).length := by omega))
    | (go_at_call 32; (with_reducible refine (pick_c w _ g v bs _ 7 (S.box memA) S.frame hg hr hl (by omega) (by omega) (by omega)).mono ?_); rintro e w9 ⟨x2, rfl, lox2, hix2, k9, c9⟩; replace S := S.putBox (n' := 2) (cs' := [v, .int .i64 ((_ : Nat) : Int)]) putA k9 rfl c9; clear k9 c9)
    | ((with_reducible refine gate_box rfl ?_); refine aBx S ?_; clear S; intro g9 w9 z9 S) | ((with_reducible refine gate_alloc rfl ?_); refine aAl S ?_; clear S; intro g9 w9 z9 S) | ((with_reducible refine gate_load rfl ?_); first | refine aLd S ?_ | refine aPt S ?_ | refine aL1 S ?_) | ((with_reducible refine gate_st rfl ?_); (first | refine aS1 S ?_ | refine aSt S ?_ | refine aSp S ?_); clear S; intro w9 S))
  · go_ret
    exact RetStr.of _ S.frame
  · have HP := Lib.hid (show p' + 1 + 1 ≤ 1000000 by omega)
    replace HM := Lib.hid HM
    replace HT := Lib.hid HT
    have S0 := S.sub (List.nil_sublist _)
    refine wp_region_noPanic ?_
    refine wp_region_held_drew (S := Sep _ _ _) (by kernel_rfl) S0.drew (fun _ => ?_)
    replace S := S.drew
    clear S0
    refine tk 0 ?_
    (try simp only [Act.put, List.setIfInBounds_toArray, List.set_cons_zero, List.set_cons_succ])
    refine tk 1 ?_
    (try simp only [Act.put, List.setIfInBounds_toArray, List.set_cons_zero, List.set_cons_succ])
    refine tk 2 ?_ (hy := by exact yTake (l := txtV q) (n := m) rfl HM.out)
    (try simp only [Act.put, List.setIfInBounds_toArray, List.set_cons_zero, List.set_cons_succ])
    refine tk 3 ?_
    (try simp only [Act.put, List.setIfInBounds_toArray, List.set_cons_zero, List.set_cons_succ])
    refine tk 7 ?_
    (try simp only [Act.put, List.setIfInBounds_toArray, List.set_cons_zero, List.set_cons_succ])
    refine tk 8 ?_
    (try simp only [Act.put, List.setIfInBounds_toArray, List.set_cons_zero, List.set_cons_succ])
    refine tk 9 ?_ (hy := by exact yDrop (l := txtV q) (n := m) rfl HM.out)
    (try simp only [Act.put, List.setIfInBounds_toArray, List.set_cons_zero, List.set_cons_succ])
    refine rdy1 4 (fun K hK => ?_)
    have gl := (S.box (g := g) (t := 63) memA).lt; refine rgStr5 S ?_; clear S; intro g9 w9 z9 S; have HN : g9 ≠ g := (by omega); clear gl z9
    (first | refine hK.out _ _ (S.sub subA) (fun _ => ?_) | (go_wp2_with fail; refine hK.out _ _ (S.sub subA) (fun _ => ?_)))
    clear hK K
    (try simp only [Act.put, List.setIfInBounds_toArray, List.set_cons_zero, List.set_cons_succ])
    refine rdy1 5 (fun K hK => ?_)
    go_simp; go_at_call 33; (refine (of_c w _ g v bs _ g9 (S.box memA) S.frame hg hr hl HP.out (S.box memA) HN).mono ?_); rintro e w9 ⟨z, rfl, hz, k9, c9⟩; replace S := S.putBox (n' := 2) (cs' := [v, .int .i64 ((_ : Nat) : Int)]) putA k9 rfl c9; clear k9 c9
    (first | refine hK.out _ _ (S.sub subA) (fun _ => ?_) | (go_wp2_with fail; refine hK.out _ _ (S.sub subA) (fun _ => ?_)))
    clear hK K
    (try simp only [Act.put, List.setIfInBounds_toArray, List.set_cons_zero, List.set_cons_succ])
    refine tk 6 ?_ (hy := by exact yAdd (l1 := (txtV q).take m) (l2 := z) (by have := HM.out; have := HT.out; simp only [List.length_take]; omega))
    (try simp only [Act.put, List.setIfInBounds_toArray, List.set_cons_zero, List.set_cons_succ])
    refine tk 10 ?_ (hy := by exact yAdd (l1 := (txtV q).take m ++ z) (l2 := (txtV q).drop m) (by have := HM.out; have := HT.out; simp only [List.length_append, List.length_take, List.length_drop]; omega))
    (try simp only [Act.put, List.setIfInBounds_toArray, List.set_cons_zero, List.set_cons_succ])
    refine tk 11 ?_
    (try simp only [Act.put, List.setIfInBounds_toArray, List.set_cons_zero, List.set_cons_succ])
    refine wpAnyH_done (by kernel_rfl) ?_ _
    refine NoPanic.normal ?_
    go_wp2
    go_ret
    exact ⟨_, rfl, S.frame⟩
  · go_ret
    exact RetStr.of _ S.frame
end Go.Proofs.YtphojlkljlnfjaaDoor
