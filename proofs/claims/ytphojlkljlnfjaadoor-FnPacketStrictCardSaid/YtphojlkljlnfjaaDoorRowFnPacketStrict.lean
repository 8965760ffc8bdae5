/- The row of FnPacketStrict: for every input the law returns true, and each argument reads as it did. -/
import Derived.Test.YtphojlkljlnfjaaDoorRows
import Derived.Test.YtphojlkljlnfjaaDoorTie
import Derived.Test.YtphojlkljlnfjaaDoorCards
import Derived.Test.YtphojlkljlnfjaaDoorLawPacketStrict
import Derived.Test.YtphojlkljlnfjaaDoorLaidDoor
import Derived.Test.YtphojlkljlnfjaaDoorOpenBytes
import Derived.WalkKit
import Derived.ProofKit
import Derived.OpenShut
import Derived.ShutString
import Derived.ChangeOld
import Derived.Below
import Derived.SizedLaws
import Derived.Carry
import Derived.LaidMore
import Derived.Stop.Joined
import Derived.SevenTiedAt
namespace Go.Proofs.YtphojlkljlnfjaaDoor.fnPacketStrict
open Go.ChangeShapes Go.WideShapes Go.ChangeAt Go.RowKit
open Go.ChangeMaps (open_string shut_string)
set_option linter.unusedVariables false
set_option linter.unusedSimpArgs false
theorem own : ownKnob Tryd.prog.godebug = none := by kernel_rfl
theorem laidOut : laidOutB Tryd.prog = true := by kernel_rfl
noncomputable def doorWorld (os : Os) : World :=
  let w0 := World.doorLaid Tryd.prog 91 os
  { w0 with heap := w0.heap.modify 7 fun
      | .cells _ t frozen => .cells ((Go.Pinned.utf8FirstZ.map fun (n : Nat) => Value.int .u8 (n : Int)).toArray) t frozen
      | o => o }
theorem door_met (os : Os) (args : Array Value) : laidMetH Tryd.prog Rows.fnPacketStrictRow.laid ((doorWorld os).forCall (fun _ _ => 0) ⟨#[], args, []⟩).memory :=
  laidMetH_of_parts (laidMet_of_run' 8 (by kernel_rfl) (by kernel_rfl)) (by kernel_rfl)
set_option maxRecDepth 100000 in
theorem lifted (os : Os) (started : os.Started) (H : Type) (enc : TypeId × Value → H) :
    ReturnsInHanded {} Tryd.checked os 5 .any (fun w args => (Rows.fnPacketStrictSpec.pre enc Tryd.prog Tryd.f5 [] false w args ∧ laidMetH Tryd.prog Rows.fnPacketStrictRow.laid w) ∧ sizedMet enc Tryd.prog Tryd.f5 (OpenSpec.ofChange Rows.fnPacketStrictSpec) false w args) (Rows.fnPacketStrictSpec.post enc Tryd.prog Tryd.f5 false true false false) := by
  refine doorWrap (C := Tryd.checked) (X := fun w _ => laidMetH Tryd.prog Rows.fnPacketStrictRow.laid w) (fun _ _ _ hh h => h.of_heap hh) own started (by kernel_rfl) Tryd.func5
    (ChangeSpec.witness_shaped (enc := enc) (C := Tryd.checked) (os := os) (X := fun w _ => laidMetH Tryd.prog Rows.fnPacketStrictRow.laid w) false (doorWorld os) #[.slice none 0 0] 8 rfl (World.shaped_of_RefB (by kernel_rfl) (by kernel_rfl)) (by kernel_rfl) (by kernel_rfl) (by kernel_rfl) (door_met os _)) ?_
  intro W base args ds gs before hval0 hW _ hL hsh
  have hval : ∀ (j : Nat) t v, Tryd.f5.params[j]? = some t → args[j]? = some v → Value.okWide Tryd.prog W .any base t v := hval0
  have hW' := hW
  obtain ⟨p, q, hA0, hV, rfl, hfz, hnd⟩ := hW
  have hA : DataW.TrodAll enc Tryd.prog W 0 (fun _ => true) true Tryd.f5.params.toList args.toList ds p := hA0
  rw [Tryd.params5] at hA hval
  obtain ⟨v0, vs0, d0, ds0, p0, q0, hargs, rfl, rfl, h0, r0⟩ := trodAll_cons hA
  obtain ⟨rfl, rfl, rfl⟩ := trodAll_nil r0
  obtain rfl : args = #[v0] := by cases args; simp_all
  have hV1 : DataW.TrodVars enc Tryd.prog W (fun _ => true) ["loop.example/hawser/impl.errPacketText"] gs q := hV
  obtain ⟨ad, LD, hv⟩ := laidOf hL hsh
  obtain ⟨rfl, rfl⟩ := hV1.unique (vars_read1 enc gErr gErrT Tryd.underlying47 hv trivial _)
  have k0 := h0
  have lt0 : ∀ x ∈ p0, x.block < W.heap.size := by obtain ⟨m, hm⟩ := k0; exact DataW.trod_lt m _ _ _ hm
  obtain ⟨a0, n0, m0, rfl⟩ := okWide_slice Tryd.underlying22 (hval 0 22 v0 rfl rfl)
  obtain ⟨b0, z0⟩ : ∃ bs, tByte.row W (.slice a0 n0 m0) bs := by obtain ⟨m, hm⟩ := h0; obtain ⟨v, xs, e, hr⟩ := opens_bytes _ _ _ hm; cases e; exact ⟨xs, hr⟩
  refine (FnPacketStrict_c W _ b0 z0 LD).mono fun e W' ⟨he, fr⟩ => ?_
  have bel := fr.below
  subst he
  exact ⟨_, rfl, _, _, _, [], _, _, hW', trodAll_mk1 (shut_bool Tryd.underlying4 _), (trodAll_cons_mk (Below.trod laidOut (by kernel_rfl) (of_decide_eq_true (by kernel_rfl)) k0 bel lt0) trodAll_mk0), vars_read1 enc gErr gErrT Tryd.underlying47 (fr.var hv) trivial _, bel.frame _, fun h => by cases h⟩
theorem over : Rows.fnPacketStrictRow.holds Tryd.pinned (OpenSpec.ofChange Rows.fnPacketStrictSpec) :=
  OpenClaim.holds_of_wide 5 Tryd.f5 rfl rfl rfl rfl rfl rfl rfl ⟨rfl, rfl, rfl, rfl, rfl⟩ rfl rfl rfl rfl rfl (by kernel_rfl) Tryd.func5 (by kernel_rfl)
    (of_decide_eq_true (by kernel_rfl)) (by unfold Func.isWrapper; rw [if_neg (of_decide_eq_false (by kernel_rfl))]; exact ⟨rfl, rfl⟩)
    (fun os started H enc _ => lifted os started H enc)
theorem card_holds : Rows.FnPacketStrictCardSaid :=
  Claim7.holds_tied_plain_at .later [] [.data, .data, .data, .data, .sentinel, .sentinel, .sentinel, .pinned] true (true, "63cee3945c415ce69a7960e1e150e1c135d502b8f7acaf364d0f4295c632432f") true
    over (fun _ h => by cases h) (by kernel_rfl) (fun _ h => by cases h) fnPacketStrict_row_tie rfl ⟨rfl, rfl⟩ (by kernel_rfl) rfl
    (fun f fn hf hfn => by
      obtain rfl : f = 5 := Option.some.inj ((show Tryd.prog.funcNamed "loop.example/hawser/laws.FnPacketStrict" = some 5 by kernel_rfl).symm.trans hf) |>.symm
      obtain rfl : fn = Tryd.f5 := (Option.some.inj (Tryd.func5.symm.trans hfn)).symm
      exact ⟨by kernel_rfl, fun j t ht => by
        rw [Tryd.params5] at ht
        have hm : t ∈ [22] := by simpa using Array.mem_of_getElem? ht
        have hall : ([22].all fun u => !Tryd.prog.wantsStandIn u) = true := by kernel_rfl
        exact (show Tryd.prog.wantsStandIn t = false by simpa using List.all_eq_true.1 hall t hm)⟩)
    (by kernel_rfl)
theorem proved : Rows.FnPacketStrictCardSaid := card_holds
#print axioms proved
end Go.Proofs.YtphojlkljlnfjaaDoor.fnPacketStrict
namespace Go.Proofs.YtphojlkljlnfjaaDoor
theorem fnPacketStrict_holds : Rows.FnPacketStrictCardSaid := fnPacketStrict.proved
end Go.Proofs.YtphojlkljlnfjaaDoor
