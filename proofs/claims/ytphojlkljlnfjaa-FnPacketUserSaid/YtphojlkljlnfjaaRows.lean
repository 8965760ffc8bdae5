/-
  No cell of these rows narrows 'for every input' (looked for: loops, veiled, ifaces, maps, wideKeys, modest, calm, conditions, laid).
  DERIVED. THE GIVEN ROWS OF THIS SEAT. 4 by the template 'for every input the law returns true; each argument reads behind the call as it read before'; 0 by the template 'total and deterministic' (their statements: YtphojlkljlnfjaaTotals.lean).
  GIVEN WITH THE SEED: the statements are not yours to turn. If you find one false, say at which input.
  Laid BY PROGRAM, IN A SANDBOX (cutbox-rows.mjs): the forced cells as the released guide's own fill.sh prints them over the translation f809504d6751bbb9… (all of the seat's roots in one cut). By AI agents, Wed Nov 11 2026. No macro, syntax, notation, axiom, sorry.
-/
import Derived.Test.YtphojlkljlnfjaaChecked
import GoSem.Claim
import GoSem.ClaimJoined
import GoSem.ClaimMapViews
import Derived.JoinedTies
import Derived.KernelRfl
namespace Go.Proofs.Ytphojlkljlnfjaa
/- THE CELL 'sum', in the pinned program and in every row, IS THE sha256 OF THE DUMP (.gsa) THAT YtphojlkljlnfjaaProg.lean LOADS. Nothing in Lean hashes anything: it is a label: what it is worth is what the hold of that sum in a sandbox is worth. -/
noncomputable def Try.pinned : Pinned := { name := "ytphojlkljlnfjaa", sum := "f809504d6751bbb9f6f0f7f598589576b4beb77100a6997be258c083e56687c0", checked := Try.checked }
namespace Rows
def none {H : Type} : Left H := { results := [], args := [] }

/-- 'laws.FnExactConstants': WHATEVER THE INPUT: true; the input reads as it did. -/
def fnExactConstantsSpec : ChangeSpec := { name := "fnExactConstants", fn := fun _ => fun
  | [] => { results := [.lit (.bool true)], args := [] }
  | _ => none }
def fnExactConstantsRow : OpenClaim := { program := "ytphojlkljlnfjaa", sum := "f809504d6751bbb9f6f0f7f598589576b4beb77100a6997be258c083e56687c0", func := "loop.example/hawser/laws.FnExactConstants", spec := "fnExactConstants", apart := false }
def FnExactConstantsSaid : Prop := fnExactConstantsRow.holds Try.pinned (OpenSpec.ofChange fnExactConstantsSpec)

/-- ITS FALSE NEIGHBOUR: 'it returns false'. Refute it at one input. -/
def fnExactConstantsWrong : ChangeSpec := { name := "fnExactConstants", fn := fun _ => fun
  | [] => { results := [.lit (.bool false)], args := [] }
  | _ => none }
def FnExactConstantsWrongFalsely : Prop := fnExactConstantsRow.holds Try.pinned (OpenSpec.ofChange fnExactConstantsWrong)

/-- 'laws.FnExactPacketOk': WHATEVER THE INPUT: true; the input reads as it did. -/
def fnExactPacketOkSpec : ChangeSpec := { name := "fnExactPacketOk", fn := fun _ => fun
  | [d] => { results := [.lit (.bool true)], args := [d] }
  | _ => none }
def fnExactPacketOkRow : OpenClaim := { program := "ytphojlkljlnfjaa", sum := "f809504d6751bbb9f6f0f7f598589576b4beb77100a6997be258c083e56687c0", func := "loop.example/hawser/laws.FnExactPacketOk", spec := "fnExactPacketOk", apart := false }
def FnExactPacketOkSaid : Prop := fnExactPacketOkRow.holds Try.pinned (OpenSpec.ofChange fnExactPacketOkSpec)

/-- ITS FALSE NEIGHBOUR: 'it returns false'. Refute it at one input. -/
def fnExactPacketOkWrong : ChangeSpec := { name := "fnExactPacketOk", fn := fun _ => fun
  | [d] => { results := [.lit (.bool false)], args := [d] }
  | _ => none }
def FnExactPacketOkWrongFalsely : Prop := fnExactPacketOkRow.holds Try.pinned (OpenSpec.ofChange fnExactPacketOkWrong)

/-- 'laws.FnPacketForm': WHATEVER THE INPUT: true; the input reads as it did. -/
def fnPacketFormSpec : ChangeSpec := { name := "fnPacketForm", fn := fun _ => fun
  | [d] => { results := [.lit (.bool true)], args := [d] }
  | _ => none }
def fnPacketFormRow : OpenClaim := { program := "ytphojlkljlnfjaa", sum := "f809504d6751bbb9f6f0f7f598589576b4beb77100a6997be258c083e56687c0", func := "loop.example/hawser/laws.FnPacketForm", spec := "fnPacketForm", apart := false }
def FnPacketFormSaid : Prop := fnPacketFormRow.holds Try.pinned (OpenSpec.ofChange fnPacketFormSpec)

/-- ITS FALSE NEIGHBOUR: 'it returns false'. Refute it at one input. -/
def fnPacketFormWrong : ChangeSpec := { name := "fnPacketForm", fn := fun _ => fun
  | [d] => { results := [.lit (.bool false)], args := [d] }
  | _ => none }
def FnPacketFormWrongFalsely : Prop := fnPacketFormRow.holds Try.pinned (OpenSpec.ofChange fnPacketFormWrong)

/-- 'laws.FnPacketUser': WHATEVER THE INPUT: true; the input reads as it did. -/
def fnPacketUserSpec : ChangeSpec := { name := "fnPacketUser", fn := fun _ => fun
  | [d1, d2] => { results := [.lit (.bool true)], args := [d1, d2] }
  | _ => none }
def fnPacketUserRow : OpenClaim := { program := "ytphojlkljlnfjaa", sum := "f809504d6751bbb9f6f0f7f598589576b4beb77100a6997be258c083e56687c0", func := "loop.example/hawser/laws.FnPacketUser", spec := "fnPacketUser", apart := false }
def FnPacketUserSaid : Prop := fnPacketUserRow.holds Try.pinned (OpenSpec.ofChange fnPacketUserSpec)

/-- ITS FALSE NEIGHBOUR: 'it returns false'. Refute it at one input. -/
def fnPacketUserWrong : ChangeSpec := { name := "fnPacketUser", fn := fun _ => fun
  | [d1, d2] => { results := [.lit (.bool false)], args := [d1, d2] }
  | _ => none }
def FnPacketUserWrongFalsely : Prop := fnPacketUserRow.holds Try.pinned (OpenSpec.ofChange fnPacketUserWrong)

/- THE SECOND FORM. 'bulk': how many values and letters a reading holds, each counted each time it is reached (what is shared counts as often as it is met; a slice's spare places count too). A statement '..UptoSaid' is the law's where the arguments, and the package variables that the reading takes, are together of bulk at most 1048576: NARROWER than '..Said'. Prove '..Said' where nothing that the law and all that it calls make is longer than what came in: it says more and counts as full. Else prove '..UptoSaid'. A law counts once. -/
mutual
def uptoBulk {H : Type} : DataW H → Nat
  | .lit (.string bytes) => bytes.length + 1
  | .lit _ => 1
  | .nil => 1
  | .ptr d => uptoBulk d + 1
  | .slice elems spare => uptoBulkAll elems + uptoBulkAll spare + 1
  | .agg parts => uptoBulkAll parts + 1
  | .iface _ d => uptoBulk d + 1
  | .map entries => uptoBulkEntries entries + 1
  | .held _ => 1
def uptoBulkAll {H : Type} : List (DataW H) → Nat
  | [] => 0
  | d :: r => uptoBulk d + uptoBulkAll r
def uptoBulkEntries {H : Type} : List (Lit × DataW H) → Nat
  | [] => 0
  | x :: r => uptoBulkEntry x + uptoBulkEntries r
def uptoBulkEntry {H : Type} : Lit × DataW H → Nat
  | (.string bytes, d) => bytes.length + uptoBulk d + 1
  | (_, d) => uptoBulk d + 1
 end
def uptoSmall : (H : Type) → List (DataW H) → Bool := fun _ ds => decide (uptoBulkAll ds ≤ 1048576)
def OpenSpec.upto (s : _root_.Go.ChangeSpec) : _root_.Go.OpenSpec := { _root_.Go.OpenSpec.ofChange s with cond := some uptoSmall }

/-- 'laws.FnExactConstants', WHERE WHAT IT READS IS OF BULK AT MOST 1048576: true; the input reads as it did. -/
def fnExactConstantsUptoRow : OpenClaim := { program := "ytphojlkljlnfjaa", sum := "f809504d6751bbb9f6f0f7f598589576b4beb77100a6997be258c083e56687c0", func := "loop.example/hawser/laws.FnExactConstants", spec := "fnExactConstants", apart := false, narrowed := true }
def FnExactConstantsUptoSaid : Prop := fnExactConstantsUptoRow.holds Try.pinned (OpenSpec.upto fnExactConstantsSpec)

/-- 'laws.FnExactPacketOk', WHERE WHAT IT READS IS OF BULK AT MOST 1048576: true; the input reads as it did. -/
def fnExactPacketOkUptoRow : OpenClaim := { program := "ytphojlkljlnfjaa", sum := "f809504d6751bbb9f6f0f7f598589576b4beb77100a6997be258c083e56687c0", func := "loop.example/hawser/laws.FnExactPacketOk", spec := "fnExactPacketOk", apart := false, narrowed := true }
def FnExactPacketOkUptoSaid : Prop := fnExactPacketOkUptoRow.holds Try.pinned (OpenSpec.upto fnExactPacketOkSpec)

/-- 'laws.FnPacketForm', WHERE WHAT IT READS IS OF BULK AT MOST 1048576: true; the input reads as it did. -/
def fnPacketFormUptoRow : OpenClaim := { program := "ytphojlkljlnfjaa", sum := "f809504d6751bbb9f6f0f7f598589576b4beb77100a6997be258c083e56687c0", func := "loop.example/hawser/laws.FnPacketForm", spec := "fnPacketForm", apart := false, narrowed := true }
def FnPacketFormUptoSaid : Prop := fnPacketFormUptoRow.holds Try.pinned (OpenSpec.upto fnPacketFormSpec)

/-- 'laws.FnPacketUser', WHERE WHAT IT READS IS OF BULK AT MOST 1048576: true; the input reads as it did. -/
def fnPacketUserUptoRow : OpenClaim := { program := "ytphojlkljlnfjaa", sum := "f809504d6751bbb9f6f0f7f598589576b4beb77100a6997be258c083e56687c0", func := "loop.example/hawser/laws.FnPacketUser", spec := "fnPacketUser", apart := false, narrowed := true }
def FnPacketUserUptoSaid : Prop := fnPacketUserUptoRow.holds Try.pinned (OpenSpec.upto fnPacketUserSpec)

end Rows
end Go.Proofs.Ytphojlkljlnfjaa
