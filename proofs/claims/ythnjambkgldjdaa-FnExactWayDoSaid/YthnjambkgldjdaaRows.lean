/-
  No cell of these rows narrows 'for every input' (looked for: loops, veiled, ifaces, maps, wideKeys, modest, calm, conditions, laid).
  DERIVED. THE GIVEN ROWS OF THIS SEAT. 8 by the template 'for every input the law returns true; each argument reads behind the call as it read before'; 0 by the template 'total and deterministic' (their statements: YthnjambkgldjdaaTotals.lean).
  GIVEN WITH THE SEED: the statements are not yours to turn. If you find one false, say at which input.
  Laid BY PROGRAM, IN A SANDBOX (cutbox-rows.mjs): the forced cells as the released guide's own fill.sh prints them over the translation f9645fb495ce16b3… (all of the seat's roots in one cut). By AI agents, Wed Nov 11 2026. No macro, syntax, notation, axiom, sorry.
-/
import Derived.Test.YthnjambkgldjdaaChecked
import GoSem.Claim
import GoSem.ClaimJoined
import GoSem.ClaimMapViews
import Derived.JoinedTies
import Derived.KernelRfl
namespace Go.Proofs.Ythnjambkgldjdaa
/- THE CELL 'sum', in the pinned program and in every row, IS THE sha256 OF THE DUMP (.gsa) THAT YthnjambkgldjdaaProg.lean LOADS. Nothing in Lean hashes anything: it is a label: what it is worth is what the hold of that sum in a sandbox is worth. -/
noncomputable def Try.pinned : Pinned := { name := "ythnjambkgldjdaa", sum := "f9645fb495ce16b32392cdfd3e2fd7d8648cfe50c52cd4ed912e7eb96064b413", checked := Try.checked }
namespace Rows
def none {H : Type} : Left H := { results := [], args := [] }

/-- 'laws.FnExactStateNew': WHATEVER THE INPUT: true; the input reads as it did. -/
def fnExactStateNewSpec : ChangeSpec := { name := "fnExactStateNew", fn := fun _ => fun
  | [] => { results := [.lit (.bool true)], args := [] }
  | _ => none }
def fnExactStateNewRow : OpenClaim := { program := "ythnjambkgldjdaa", sum := "f9645fb495ce16b32392cdfd3e2fd7d8648cfe50c52cd4ed912e7eb96064b413", func := "loop.example/hawser/laws.FnExactStateNew", spec := "fnExactStateNew", apart := false }
def FnExactStateNewSaid : Prop := fnExactStateNewRow.holds Try.pinned (OpenSpec.ofChange fnExactStateNewSpec)

/-- ITS FALSE NEIGHBOUR: 'it returns false'. Refute it at one input. -/
def fnExactStateNewWrong : ChangeSpec := { name := "fnExactStateNew", fn := fun _ => fun
  | [] => { results := [.lit (.bool false)], args := [] }
  | _ => none }
def FnExactStateNewWrongFalsely : Prop := fnExactStateNewRow.holds Try.pinned (OpenSpec.ofChange fnExactStateNewWrong)

/-- 'laws.FnExactStateOk': WHATEVER THE INPUT: true; the input reads as it did. -/
def fnExactStateOkSpec : ChangeSpec := { name := "fnExactStateOk", fn := fun _ => fun
  | [d] => { results := [.lit (.bool true)], args := [d] }
  | _ => none }
def fnExactStateOkRow : OpenClaim := { program := "ythnjambkgldjdaa", sum := "f9645fb495ce16b32392cdfd3e2fd7d8648cfe50c52cd4ed912e7eb96064b413", func := "loop.example/hawser/laws.FnExactStateOk", spec := "fnExactStateOk", apart := false }
def FnExactStateOkSaid : Prop := fnExactStateOkRow.holds Try.pinned (OpenSpec.ofChange fnExactStateOkSpec)

/-- ITS FALSE NEIGHBOUR: 'it returns false'. Refute it at one input. -/
def fnExactStateOkWrong : ChangeSpec := { name := "fnExactStateOk", fn := fun _ => fun
  | [d] => { results := [.lit (.bool false)], args := [d] }
  | _ => none }
def FnExactStateOkWrongFalsely : Prop := fnExactStateOkRow.holds Try.pinned (OpenSpec.ofChange fnExactStateOkWrong)

/-- 'laws.FnExactStateHas': WHATEVER THE INPUT: true; the input reads as it did. -/
def fnExactStateHasSpec : ChangeSpec := { name := "fnExactStateHas", fn := fun _ => fun
  | [d1, d2] => { results := [.lit (.bool true)], args := [d1, d2] }
  | _ => none }
def fnExactStateHasRow : OpenClaim := { program := "ythnjambkgldjdaa", sum := "f9645fb495ce16b32392cdfd3e2fd7d8648cfe50c52cd4ed912e7eb96064b413", func := "loop.example/hawser/laws.FnExactStateHas", spec := "fnExactStateHas", apart := false }
def FnExactStateHasSaid : Prop := fnExactStateHasRow.holds Try.pinned (OpenSpec.ofChange fnExactStateHasSpec)

/-- ITS FALSE NEIGHBOUR: 'it returns false'. Refute it at one input. -/
def fnExactStateHasWrong : ChangeSpec := { name := "fnExactStateHas", fn := fun _ => fun
  | [d1, d2] => { results := [.lit (.bool false)], args := [d1, d2] }
  | _ => none }
def FnExactStateHasWrongFalsely : Prop := fnExactStateHasRow.holds Try.pinned (OpenSpec.ofChange fnExactStateHasWrong)

/-- 'laws.FnExactStateSettled': WHATEVER THE INPUT: true; the input reads as it did. -/
def fnExactStateSettledSpec : ChangeSpec := { name := "fnExactStateSettled", fn := fun _ => fun
  | [d1, d2] => { results := [.lit (.bool true)], args := [d1, d2] }
  | _ => none }
def fnExactStateSettledRow : OpenClaim := { program := "ythnjambkgldjdaa", sum := "f9645fb495ce16b32392cdfd3e2fd7d8648cfe50c52cd4ed912e7eb96064b413", func := "loop.example/hawser/laws.FnExactStateSettled", spec := "fnExactStateSettled", apart := false }
def FnExactStateSettledSaid : Prop := fnExactStateSettledRow.holds Try.pinned (OpenSpec.ofChange fnExactStateSettledSpec)

/-- ITS FALSE NEIGHBOUR: 'it returns false'. Refute it at one input. -/
def fnExactStateSettledWrong : ChangeSpec := { name := "fnExactStateSettled", fn := fun _ => fun
  | [d1, d2] => { results := [.lit (.bool false)], args := [d1, d2] }
  | _ => none }
def FnExactStateSettledWrongFalsely : Prop := fnExactStateSettledRow.holds Try.pinned (OpenSpec.ofChange fnExactStateSettledWrong)

/-- 'laws.FnExactStateGot': WHATEVER THE INPUT: true; the input reads as it did. -/
def fnExactStateGotSpec : ChangeSpec := { name := "fnExactStateGot", fn := fun _ => fun
  | [d1, d2] => { results := [.lit (.bool true)], args := [d1, d2] }
  | _ => none }
def fnExactStateGotRow : OpenClaim := { program := "ythnjambkgldjdaa", sum := "f9645fb495ce16b32392cdfd3e2fd7d8648cfe50c52cd4ed912e7eb96064b413", func := "loop.example/hawser/laws.FnExactStateGot", spec := "fnExactStateGot", apart := false }
def FnExactStateGotSaid : Prop := fnExactStateGotRow.holds Try.pinned (OpenSpec.ofChange fnExactStateGotSpec)

/-- ITS FALSE NEIGHBOUR: 'it returns false'. Refute it at one input. -/
def fnExactStateGotWrong : ChangeSpec := { name := "fnExactStateGot", fn := fun _ => fun
  | [d1, d2] => { results := [.lit (.bool false)], args := [d1, d2] }
  | _ => none }
def FnExactStateGotWrongFalsely : Prop := fnExactStateGotRow.holds Try.pinned (OpenSpec.ofChange fnExactStateGotWrong)

/-- 'laws.FnExactStateLive': WHATEVER THE INPUT: true; the input reads as it did. -/
def fnExactStateLiveSpec : ChangeSpec := { name := "fnExactStateLive", fn := fun _ => fun
  | [d] => { results := [.lit (.bool true)], args := [d] }
  | _ => none }
def fnExactStateLiveRow : OpenClaim := { program := "ythnjambkgldjdaa", sum := "f9645fb495ce16b32392cdfd3e2fd7d8648cfe50c52cd4ed912e7eb96064b413", func := "loop.example/hawser/laws.FnExactStateLive", spec := "fnExactStateLive", apart := false }
def FnExactStateLiveSaid : Prop := fnExactStateLiveRow.holds Try.pinned (OpenSpec.ofChange fnExactStateLiveSpec)

/-- ITS FALSE NEIGHBOUR: 'it returns false'. Refute it at one input. -/
def fnExactStateLiveWrong : ChangeSpec := { name := "fnExactStateLive", fn := fun _ => fun
  | [d] => { results := [.lit (.bool false)], args := [d] }
  | _ => none }
def FnExactStateLiveWrongFalsely : Prop := fnExactStateLiveRow.holds Try.pinned (OpenSpec.ofChange fnExactStateLiveWrong)

/-- 'laws.FnExactWayNext': WHATEVER THE INPUT: true; the input reads as it did. -/
def fnExactWayNextSpec : ChangeSpec := { name := "fnExactWayNext", fn := fun _ => fun
  | [d1, d2] => { results := [.lit (.bool true)], args := [d1, d2] }
  | _ => none }
def fnExactWayNextRow : OpenClaim := { program := "ythnjambkgldjdaa", sum := "f9645fb495ce16b32392cdfd3e2fd7d8648cfe50c52cd4ed912e7eb96064b413", func := "loop.example/hawser/laws.FnExactWayNext", spec := "fnExactWayNext", unfollowed := true, recurses := true, apart := false }
def FnExactWayNextSaid : Prop := fnExactWayNextRow.holds Try.pinned (OpenSpec.ofChange fnExactWayNextSpec)

/-- ITS FALSE NEIGHBOUR: 'it returns false'. Refute it at one input. -/
def fnExactWayNextWrong : ChangeSpec := { name := "fnExactWayNext", fn := fun _ => fun
  | [d1, d2] => { results := [.lit (.bool false)], args := [d1, d2] }
  | _ => none }
def FnExactWayNextWrongFalsely : Prop := fnExactWayNextRow.holds Try.pinned (OpenSpec.ofChange fnExactWayNextWrong)

/-- 'laws.FnExactWayDo': WHATEVER THE INPUT: true; the input reads as it did. -/
def fnExactWayDoSpec : ChangeSpec := { name := "fnExactWayDo", fn := fun _ => fun
  | [d1, d2, d3] => { results := [.lit (.bool true)], args := [d1, d2, d3] }
  | _ => none }
def fnExactWayDoRow : OpenClaim := { program := "ythnjambkgldjdaa", sum := "f9645fb495ce16b32392cdfd3e2fd7d8648cfe50c52cd4ed912e7eb96064b413", func := "loop.example/hawser/laws.FnExactWayDo", spec := "fnExactWayDo", unfollowed := true, recurses := true, apart := false }
def FnExactWayDoSaid : Prop := fnExactWayDoRow.holds Try.pinned (OpenSpec.ofChange fnExactWayDoSpec)

/-- ITS FALSE NEIGHBOUR: 'it returns false'. Refute it at one input. -/
def fnExactWayDoWrong : ChangeSpec := { name := "fnExactWayDo", fn := fun _ => fun
  | [d1, d2, d3] => { results := [.lit (.bool false)], args := [d1, d2, d3] }
  | _ => none }
def FnExactWayDoWrongFalsely : Prop := fnExactWayDoRow.holds Try.pinned (OpenSpec.ofChange fnExactWayDoWrong)

/- THE SECOND FORM. 'bulk': how many values and letters a reading holds, each counted each time it is reached (what is shared counts as often as it is met; a slice's spare places count too). A statement '..UptoSaid' is the law's where the arguments, and the package variables that the reading takes, are together of bulk at most 1048576: NARROWER than '..Said'. Prove '..Said' where nothing that the law and all that it calls make is longer than what came in: it says more and counts as full. Else prove '..UptoSaid'. A law counts once. -/
mutual
def uptoBulk {H : Type} : DataW H → Nat
  | .lit (.string bytes) => bytes.length + 1
  | .lit _ => 1
  | .nil => 1
  | .ptr d => uptoBulk d + 1
  | .slice elems spare => uptoBulkAll elems + uptoBulkAll spare + 1
  | .agg parts => uptoBulkAll parts + 1
  | .iface _ d => uptoBulk d + 1
  | .map entries => uptoBulkEntries entries + 1
  | .held _ => 1
def uptoBulkAll {H : Type} : List (DataW H) → Nat
  | [] => 0
  | d :: r => uptoBulk d + uptoBulkAll r
def uptoBulkEntries {H : Type} : List (Lit × DataW H) → Nat
  | [] => 0
  | x :: r => uptoBulkEntry x + uptoBulkEntries r
def uptoBulkEntry {H : Type} : Lit × DataW H → Nat
  | (.string bytes, d) => bytes.length + uptoBulk d + 1
  | (_, d) => uptoBulk d + 1
 end
def uptoSmall : (H : Type) → List (DataW H) → Bool := fun _ ds => decide (uptoBulkAll ds ≤ 1048576)
def OpenSpec.upto (s : _root_.Go.ChangeSpec) : _root_.Go.OpenSpec := { _root_.Go.OpenSpec.ofChange s with cond := some uptoSmall }

/-- 'laws.FnExactStateNew', WHERE WHAT IT READS IS OF BULK AT MOST 1048576: true; the input reads as it did. -/
def fnExactStateNewUptoRow : OpenClaim := { program := "ythnjambkgldjdaa", sum := "f9645fb495ce16b32392cdfd3e2fd7d8648cfe50c52cd4ed912e7eb96064b413", func := "loop.example/hawser/laws.FnExactStateNew", spec := "fnExactStateNew", apart := false, narrowed := true }
def FnExactStateNewUptoSaid : Prop := fnExactStateNewUptoRow.holds Try.pinned (OpenSpec.upto fnExactStateNewSpec)

/-- 'laws.FnExactStateOk', WHERE WHAT IT READS IS OF BULK AT MOST 1048576: true; the input reads as it did. -/
def fnExactStateOkUptoRow : OpenClaim := { program := "ythnjambkgldjdaa", sum := "f9645fb495ce16b32392cdfd3e2fd7d8648cfe50c52cd4ed912e7eb96064b413", func := "loop.example/hawser/laws.FnExactStateOk", spec := "fnExactStateOk", apart := false, narrowed := true }
def FnExactStateOkUptoSaid : Prop := fnExactStateOkUptoRow.holds Try.pinned (OpenSpec.upto fnExactStateOkSpec)

/-- 'laws.FnExactStateHas', WHERE WHAT IT READS IS OF BULK AT MOST 1048576: true; the input reads as it did. -/
def fnExactStateHasUptoRow : OpenClaim := { program := "ythnjambkgldjdaa", sum := "f9645fb495ce16b32392cdfd3e2fd7d8648cfe50c52cd4ed912e7eb96064b413", func := "loop.example/hawser/laws.FnExactStateHas", spec := "fnExactStateHas", apart := false, narrowed := true }
def FnExactStateHasUptoSaid : Prop := fnExactStateHasUptoRow.holds Try.pinned (OpenSpec.upto fnExactStateHasSpec)

/-- 'laws.FnExactStateSettled', WHERE WHAT IT READS IS OF BULK AT MOST 1048576: true; the input reads as it did. -/
def fnExactStateSettledUptoRow : OpenClaim := { program := "ythnjambkgldjdaa", sum := "f9645fb495ce16b32392cdfd3e2fd7d8648cfe50c52cd4ed912e7eb96064b413", func := "loop.example/hawser/laws.FnExactStateSettled", spec := "fnExactStateSettled", apart := false, narrowed := true }
def FnExactStateSettledUptoSaid : Prop := fnExactStateSettledUptoRow.holds Try.pinned (OpenSpec.upto fnExactStateSettledSpec)

/-- 'laws.FnExactStateGot', WHERE WHAT IT READS IS OF BULK AT MOST 1048576: true; the input reads as it did. -/
def fnExactStateGotUptoRow : OpenClaim := { program := "ythnjambkgldjdaa", sum := "f9645fb495ce16b32392cdfd3e2fd7d8648cfe50c52cd4ed912e7eb96064b413", func := "loop.example/hawser/laws.FnExactStateGot", spec := "fnExactStateGot", apart := false, narrowed := true }
def FnExactStateGotUptoSaid : Prop := fnExactStateGotUptoRow.holds Try.pinned (OpenSpec.upto fnExactStateGotSpec)

/-- 'laws.FnExactStateLive', WHERE WHAT IT READS IS OF BULK AT MOST 1048576: true; the input reads as it did. -/
def fnExactStateLiveUptoRow : OpenClaim := { program := "ythnjambkgldjdaa", sum := "f9645fb495ce16b32392cdfd3e2fd7d8648cfe50c52cd4ed912e7eb96064b413", func := "loop.example/hawser/laws.FnExactStateLive", spec := "fnExactStateLive", apart := false, narrowed := true }
def FnExactStateLiveUptoSaid : Prop := fnExactStateLiveUptoRow.holds Try.pinned (OpenSpec.upto fnExactStateLiveSpec)

/-- 'laws.FnExactWayNext', WHERE WHAT IT READS IS OF BULK AT MOST 1048576: true; the input reads as it did. -/
def fnExactWayNextUptoRow : OpenClaim := { program := "ythnjambkgldjdaa", sum := "f9645fb495ce16b32392cdfd3e2fd7d8648cfe50c52cd4ed912e7eb96064b413", func := "loop.example/hawser/laws.FnExactWayNext", spec := "fnExactWayNext", unfollowed := true, recurses := true, apart := false, narrowed := true }
def FnExactWayNextUptoSaid : Prop := fnExactWayNextUptoRow.holds Try.pinned (OpenSpec.upto fnExactWayNextSpec)

/-- 'laws.FnExactWayDo', WHERE WHAT IT READS IS OF BULK AT MOST 1048576: true; the input reads as it did. -/
def fnExactWayDoUptoRow : OpenClaim := { program := "ythnjambkgldjdaa", sum := "f9645fb495ce16b32392cdfd3e2fd7d8648cfe50c52cd4ed912e7eb96064b413", func := "loop.example/hawser/laws.FnExactWayDo", spec := "fnExactWayDo", unfollowed := true, recurses := true, apart := false, narrowed := true }
def FnExactWayDoUptoSaid : Prop := fnExactWayDoUptoRow.holds Try.pinned (OpenSpec.upto fnExactWayDoSpec)

end Rows
end Go.Proofs.Ythnjambkgldjdaa
