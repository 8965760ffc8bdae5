/-
  No cell of these rows narrows 'for every input' (looked for: loops, veiled, ifaces, maps, wideKeys, modest, calm, conditions, laid).
  DERIVED. THE GIVEN ROWS OF THIS SEAT. 12 by the template 'for every input the law returns true; each argument reads behind the call as it read before'; 0 by the template 'total and deterministic' (their statements: YtapdcgjccckjeaaTotals.lean).
  GIVEN WITH THE SEED: the statements are not yours to turn. If you find one false, say at which input.
  Laid BY PROGRAM, IN A SANDBOX (cutbox-rows.mjs): the forced cells as the released guide's own fill.sh prints them over the translation ed489e288184ecd5… (all of the seat's roots in one cut). By AI agents, Wed Nov 11 2026. No macro, syntax, notation, axiom, sorry.
-/
import Derived.Test.YtapdcgjccckjeaaChecked
import GoSem.Claim
import GoSem.ClaimJoined
import GoSem.ClaimMapViews
import Derived.JoinedTies
import Derived.KernelRfl
namespace Go.Proofs.Ytapdcgjccckjeaa
/- THE CELL 'sum', in the pinned program and in every row, IS THE sha256 OF THE DUMP (.gsa) THAT YtapdcgjccckjeaaProg.lean LOADS. Nothing in Lean hashes anything: it is a label: what it is worth is what the hold of that sum in a sandbox is worth. -/
noncomputable def Try.pinned : Pinned := { name := "ytapdcgjccckjeaa", sum := "ed489e288184ecd506cb3418d4d112b457514214e236909c8f8fda3322c92620", checked := Try.checked }
namespace Rows
def none {H : Type} : Left H := { results := [], args := [] }

/-- 'laws.FnChainNew': WHATEVER THE INPUT: true; the input reads as it did. -/
def fnChainNewSpec : ChangeSpec := { name := "fnChainNew", fn := fun _ => fun
  | [d] => { results := [.lit (.bool true)], args := [d] }
  | _ => none }
def fnChainNewRow : OpenClaim := { program := "ytapdcgjccckjeaa", sum := "ed489e288184ecd506cb3418d4d112b457514214e236909c8f8fda3322c92620", func := "loop.example/hawser/laws.FnChainNew", spec := "fnChainNew", apart := false }
def FnChainNewSaid : Prop := fnChainNewRow.holds Try.pinned (OpenSpec.ofChange fnChainNewSpec)

/-- ITS FALSE NEIGHBOUR: 'it returns false'. Refute it at one input. -/
def fnChainNewWrong : ChangeSpec := { name := "fnChainNew", fn := fun _ => fun
  | [d] => { results := [.lit (.bool false)], args := [d] }
  | _ => none }
def FnChainNewWrongFalsely : Prop := fnChainNewRow.holds Try.pinned (OpenSpec.ofChange fnChainNewWrong)

/-- 'laws.FnExactChainNew': WHATEVER THE INPUT: true; the input reads as it did. -/
def fnExactChainNewSpec : ChangeSpec := { name := "fnExactChainNew", fn := fun _ => fun
  | [d] => { results := [.lit (.bool true)], args := [d] }
  | _ => none }
def fnExactChainNewRow : OpenClaim := { program := "ytapdcgjccckjeaa", sum := "ed489e288184ecd506cb3418d4d112b457514214e236909c8f8fda3322c92620", func := "loop.example/hawser/laws.FnExactChainNew", spec := "fnExactChainNew", apart := false }
def FnExactChainNewSaid : Prop := fnExactChainNewRow.holds Try.pinned (OpenSpec.ofChange fnExactChainNewSpec)

/-- ITS FALSE NEIGHBOUR: 'it returns false'. Refute it at one input. -/
def fnExactChainNewWrong : ChangeSpec := { name := "fnExactChainNew", fn := fun _ => fun
  | [d] => { results := [.lit (.bool false)], args := [d] }
  | _ => none }
def FnExactChainNewWrongFalsely : Prop := fnExactChainNewRow.holds Try.pinned (OpenSpec.ofChange fnExactChainNewWrong)

/-- 'laws.FnExactWorldNew': WHATEVER THE INPUT: true; the input reads as it did. -/
def fnExactWorldNewSpec : ChangeSpec := { name := "fnExactWorldNew", fn := fun _ => fun
  | [] => { results := [.lit (.bool true)], args := [] }
  | _ => none }
def fnExactWorldNewRow : OpenClaim := { program := "ytapdcgjccckjeaa", sum := "ed489e288184ecd506cb3418d4d112b457514214e236909c8f8fda3322c92620", func := "loop.example/hawser/laws.FnExactWorldNew", spec := "fnExactWorldNew", apart := false }
def FnExactWorldNewSaid : Prop := fnExactWorldNewRow.holds Try.pinned (OpenSpec.ofChange fnExactWorldNewSpec)

/-- ITS FALSE NEIGHBOUR: 'it returns false'. Refute it at one input. -/
def fnExactWorldNewWrong : ChangeSpec := { name := "fnExactWorldNew", fn := fun _ => fun
  | [] => { results := [.lit (.bool false)], args := [] }
  | _ => none }
def FnExactWorldNewWrongFalsely : Prop := fnExactWorldNewRow.holds Try.pinned (OpenSpec.ofChange fnExactWorldNewWrong)

/-- 'laws.FnExactChainOk': WHATEVER THE INPUT: true; the input reads as it did. -/
def fnExactChainOkSpec : ChangeSpec := { name := "fnExactChainOk", fn := fun _ => fun
  | [d] => { results := [.lit (.bool true)], args := [d] }
  | _ => none }
def fnExactChainOkRow : OpenClaim := { program := "ytapdcgjccckjeaa", sum := "ed489e288184ecd506cb3418d4d112b457514214e236909c8f8fda3322c92620", func := "loop.example/hawser/laws.FnExactChainOk", spec := "fnExactChainOk", apart := false }
def FnExactChainOkSaid : Prop := fnExactChainOkRow.holds Try.pinned (OpenSpec.ofChange fnExactChainOkSpec)

/-- ITS FALSE NEIGHBOUR: 'it returns false'. Refute it at one input. -/
def fnExactChainOkWrong : ChangeSpec := { name := "fnExactChainOk", fn := fun _ => fun
  | [d] => { results := [.lit (.bool false)], args := [d] }
  | _ => none }
def FnExactChainOkWrongFalsely : Prop := fnExactChainOkRow.holds Try.pinned (OpenSpec.ofChange fnExactChainOkWrong)

/-- 'laws.FnExactChainNext': WHATEVER THE INPUT: true; the input reads as it did. -/
def fnExactChainNextSpec : ChangeSpec := { name := "fnExactChainNext", fn := fun _ => fun
  | [d] => { results := [.lit (.bool true)], args := [d] }
  | _ => none }
def fnExactChainNextRow : OpenClaim := { program := "ytapdcgjccckjeaa", sum := "ed489e288184ecd506cb3418d4d112b457514214e236909c8f8fda3322c92620", func := "loop.example/hawser/laws.FnExactChainNext", spec := "fnExactChainNext", apart := false }
def FnExactChainNextSaid : Prop := fnExactChainNextRow.holds Try.pinned (OpenSpec.ofChange fnExactChainNextSpec)

/-- ITS FALSE NEIGHBOUR: 'it returns false'. Refute it at one input. -/
def fnExactChainNextWrong : ChangeSpec := { name := "fnExactChainNext", fn := fun _ => fun
  | [d] => { results := [.lit (.bool false)], args := [d] }
  | _ => none }
def FnExactChainNextWrongFalsely : Prop := fnExactChainNextRow.holds Try.pinned (OpenSpec.ofChange fnExactChainNextWrong)

/-- 'laws.FnExactWorldOk': WHATEVER THE INPUT: true; the input reads as it did. -/
def fnExactWorldOkSpec : ChangeSpec := { name := "fnExactWorldOk", fn := fun _ => fun
  | [d] => { results := [.lit (.bool true)], args := [d] }
  | _ => none }
def fnExactWorldOkRow : OpenClaim := { program := "ytapdcgjccckjeaa", sum := "ed489e288184ecd506cb3418d4d112b457514214e236909c8f8fda3322c92620", func := "loop.example/hawser/laws.FnExactWorldOk", spec := "fnExactWorldOk", apart := false }
def FnExactWorldOkSaid : Prop := fnExactWorldOkRow.holds Try.pinned (OpenSpec.ofChange fnExactWorldOkSpec)

/-- ITS FALSE NEIGHBOUR: 'it returns false'. Refute it at one input. -/
def fnExactWorldOkWrong : ChangeSpec := { name := "fnExactWorldOk", fn := fun _ => fun
  | [d] => { results := [.lit (.bool false)], args := [d] }
  | _ => none }
def FnExactWorldOkWrongFalsely : Prop := fnExactWorldOkRow.holds Try.pinned (OpenSpec.ofChange fnExactWorldOkWrong)

/-- 'laws.FnExactChainAt': WHATEVER THE INPUT: true; the input reads as it did. -/
def fnExactChainAtSpec : ChangeSpec := { name := "fnExactChainAt", fn := fun _ => fun
  | [d1, d2] => { results := [.lit (.bool true)], args := [d1, d2] }
  | _ => none }
def fnExactChainAtRow : OpenClaim := { program := "ytapdcgjccckjeaa", sum := "ed489e288184ecd506cb3418d4d112b457514214e236909c8f8fda3322c92620", func := "loop.example/hawser/laws.FnExactChainAt", spec := "fnExactChainAt", apart := false }
def FnExactChainAtSaid : Prop := fnExactChainAtRow.holds Try.pinned (OpenSpec.ofChange fnExactChainAtSpec)

/-- ITS FALSE NEIGHBOUR: 'it returns false'. Refute it at one input. -/
def fnExactChainAtWrong : ChangeSpec := { name := "fnExactChainAt", fn := fun _ => fun
  | [d1, d2] => { results := [.lit (.bool false)], args := [d1, d2] }
  | _ => none }
def FnExactChainAtWrongFalsely : Prop := fnExactChainAtRow.holds Try.pinned (OpenSpec.ofChange fnExactChainAtWrong)

/-- 'laws.FnExactChainBlock': WHATEVER THE INPUT: true; the input reads as it did. -/
def fnExactChainBlockSpec : ChangeSpec := { name := "fnExactChainBlock", fn := fun _ => fun
  | [d] => { results := [.lit (.bool true)], args := [d] }
  | _ => none }
def fnExactChainBlockRow : OpenClaim := { program := "ytapdcgjccckjeaa", sum := "ed489e288184ecd506cb3418d4d112b457514214e236909c8f8fda3322c92620", func := "loop.example/hawser/laws.FnExactChainBlock", spec := "fnExactChainBlock", apart := false }
def FnExactChainBlockSaid : Prop := fnExactChainBlockRow.holds Try.pinned (OpenSpec.ofChange fnExactChainBlockSpec)

/-- ITS FALSE NEIGHBOUR: 'it returns false'. Refute it at one input. -/
def fnExactChainBlockWrong : ChangeSpec := { name := "fnExactChainBlock", fn := fun _ => fun
  | [d] => { results := [.lit (.bool false)], args := [d] }
  | _ => none }
def FnExactChainBlockWrongFalsely : Prop := fnExactChainBlockRow.holds Try.pinned (OpenSpec.ofChange fnExactChainBlockWrong)

/-- 'laws.FnExactChainSend': WHATEVER THE INPUT: true; the input reads as it did. -/
def fnExactChainSendSpec : ChangeSpec := { name := "fnExactChainSend", fn := fun _ => fun
  | [d1, d2, d3, d4, d5, d6] => { results := [.lit (.bool true)], args := [d1, d2, d3, d4, d5, d6] }
  | _ => none }
def fnExactChainSendRow : OpenClaim := { program := "ytapdcgjccckjeaa", sum := "ed489e288184ecd506cb3418d4d112b457514214e236909c8f8fda3322c92620", func := "loop.example/hawser/laws.FnExactChainSend", spec := "fnExactChainSend", unfollowed := true, recurses := true, apart := false }
def FnExactChainSendSaid : Prop := fnExactChainSendRow.holds Try.pinned (OpenSpec.ofChange fnExactChainSendSpec)

/-- ITS FALSE NEIGHBOUR: 'it returns false'. Refute it at one input. -/
def fnExactChainSendWrong : ChangeSpec := { name := "fnExactChainSend", fn := fun _ => fun
  | [d1, d2, d3, d4, d5, d6] => { results := [.lit (.bool false)], args := [d1, d2, d3, d4, d5, d6] }
  | _ => none }
def FnExactChainSendWrongFalsely : Prop := fnExactChainSendRow.holds Try.pinned (OpenSpec.ofChange fnExactChainSendWrong)

/-- 'laws.FnExactRelayLate': WHATEVER THE INPUT: true; the input reads as it did. -/
def fnExactRelayLateSpec : ChangeSpec := { name := "fnExactRelayLate", fn := fun _ => fun
  | [d1, d2, d3, d4] => { results := [.lit (.bool true)], args := [d1, d2, d3, d4] }
  | _ => none }
def fnExactRelayLateRow : OpenClaim := { program := "ytapdcgjccckjeaa", sum := "ed489e288184ecd506cb3418d4d112b457514214e236909c8f8fda3322c92620", func := "loop.example/hawser/laws.FnExactRelayLate", spec := "fnExactRelayLate", unfollowed := true, recurses := true, apart := false }
def FnExactRelayLateSaid : Prop := fnExactRelayLateRow.holds Try.pinned (OpenSpec.ofChange fnExactRelayLateSpec)

/-- ITS FALSE NEIGHBOUR: 'it returns false'. Refute it at one input. -/
def fnExactRelayLateWrong : ChangeSpec := { name := "fnExactRelayLate", fn := fun _ => fun
  | [d1, d2, d3, d4] => { results := [.lit (.bool false)], args := [d1, d2, d3, d4] }
  | _ => none }
def FnExactRelayLateWrongFalsely : Prop := fnExactRelayLateRow.holds Try.pinned (OpenSpec.ofChange fnExactRelayLateWrong)

/-- 'laws.FnExactRelayTell': WHATEVER THE INPUT: true; the input reads as it did. -/
def fnExactRelayTellSpec : ChangeSpec := { name := "fnExactRelayTell", fn := fun _ => fun
  | [d1, d2, d3] => { results := [.lit (.bool true)], args := [d1, d2, d3] }
  | _ => none }
def fnExactRelayTellRow : OpenClaim := { program := "ytapdcgjccckjeaa", sum := "ed489e288184ecd506cb3418d4d112b457514214e236909c8f8fda3322c92620", func := "loop.example/hawser/laws.FnExactRelayTell", spec := "fnExactRelayTell", unfollowed := true, recurses := true, apart := false }
def FnExactRelayTellSaid : Prop := fnExactRelayTellRow.holds Try.pinned (OpenSpec.ofChange fnExactRelayTellSpec)

/-- ITS FALSE NEIGHBOUR: 'it returns false'. Refute it at one input. -/
def fnExactRelayTellWrong : ChangeSpec := { name := "fnExactRelayTell", fn := fun _ => fun
  | [d1, d2, d3] => { results := [.lit (.bool false)], args := [d1, d2, d3] }
  | _ => none }
def FnExactRelayTellWrongFalsely : Prop := fnExactRelayTellRow.holds Try.pinned (OpenSpec.ofChange fnExactRelayTellWrong)

/-- 'laws.FnExactRelayGet': WHATEVER THE INPUT: true; the input reads as it did. -/
def fnExactRelayGetSpec : ChangeSpec := { name := "fnExactRelayGet", fn := fun _ => fun
  | [d1, d2, d3] => { results := [.lit (.bool true)], args := [d1, d2, d3] }
  | _ => none }
def fnExactRelayGetRow : OpenClaim := { program := "ytapdcgjccckjeaa", sum := "ed489e288184ecd506cb3418d4d112b457514214e236909c8f8fda3322c92620", func := "loop.example/hawser/laws.FnExactRelayGet", spec := "fnExactRelayGet", unfollowed := true, recurses := true, apart := false }
def FnExactRelayGetSaid : Prop := fnExactRelayGetRow.holds Try.pinned (OpenSpec.ofChange fnExactRelayGetSpec)

/-- ITS FALSE NEIGHBOUR: 'it returns false'. Refute it at one input. -/
def fnExactRelayGetWrong : ChangeSpec := { name := "fnExactRelayGet", fn := fun _ => fun
  | [d1, d2, d3] => { results := [.lit (.bool false)], args := [d1, d2, d3] }
  | _ => none }
def FnExactRelayGetWrongFalsely : Prop := fnExactRelayGetRow.holds Try.pinned (OpenSpec.ofChange fnExactRelayGetWrong)

/- THE SECOND FORM. 'bulk': how many values and letters a reading holds, each counted each time it is reached (what is shared counts as often as it is met; a slice's spare places count too). A statement '..UptoSaid' is the law's where the arguments, and the package variables that the reading takes, are together of bulk at most 1048576: NARROWER than '..Said'. Prove '..Said' where nothing that the law and all that it calls make is longer than what came in: it says more and counts as full. Else prove '..UptoSaid'. A law counts once. -/
mutual
def uptoBulk {H : Type} : DataW H → Nat
  | .lit (.string bytes) => bytes.length + 1
  | .lit _ => 1
  | .nil => 1
  | .ptr d => uptoBulk d + 1
  | .slice elems spare => uptoBulkAll elems + uptoBulkAll spare + 1
  | .agg parts => uptoBulkAll parts + 1
  | .iface _ d => uptoBulk d + 1
  | .map entries => uptoBulkEntries entries + 1
  | .held _ => 1
def uptoBulkAll {H : Type} : List (DataW H) → Nat
  | [] => 0
  | d :: r => uptoBulk d + uptoBulkAll r
def uptoBulkEntries {H : Type} : List (Lit × DataW H) → Nat
  | [] => 0
  | x :: r => uptoBulkEntry x + uptoBulkEntries r
def uptoBulkEntry {H : Type} : Lit × DataW H → Nat
  | (.string bytes, d) => bytes.length + uptoBulk d + 1
  | (_, d) => uptoBulk d + 1
 end
def uptoSmall : (H : Type) → List (DataW H) → Bool := fun _ ds => decide (uptoBulkAll ds ≤ 1048576)
def OpenSpec.upto (s : _root_.Go.ChangeSpec) : _root_.Go.OpenSpec := { _root_.Go.OpenSpec.ofChange s with cond := some uptoSmall }

/-- 'laws.FnChainNew', WHERE WHAT IT READS IS OF BULK AT MOST 1048576: true; the input reads as it did. -/
def fnChainNewUptoRow : OpenClaim := { program := "ytapdcgjccckjeaa", sum := "ed489e288184ecd506cb3418d4d112b457514214e236909c8f8fda3322c92620", func := "loop.example/hawser/laws.FnChainNew", spec := "fnChainNew", apart := false, narrowed := true }
def FnChainNewUptoSaid : Prop := fnChainNewUptoRow.holds Try.pinned (OpenSpec.upto fnChainNewSpec)

/-- 'laws.FnExactChainNew', WHERE WHAT IT READS IS OF BULK AT MOST 1048576: true; the input reads as it did. -/
def fnExactChainNewUptoRow : OpenClaim := { program := "ytapdcgjccckjeaa", sum := "ed489e288184ecd506cb3418d4d112b457514214e236909c8f8fda3322c92620", func := "loop.example/hawser/laws.FnExactChainNew", spec := "fnExactChainNew", apart := false, narrowed := true }
def FnExactChainNewUptoSaid : Prop := fnExactChainNewUptoRow.holds Try.pinned (OpenSpec.upto fnExactChainNewSpec)

/-- 'laws.FnExactWorldNew', WHERE WHAT IT READS IS OF BULK AT MOST 1048576: true; the input reads as it did. -/
def fnExactWorldNewUptoRow : OpenClaim := { program := "ytapdcgjccckjeaa", sum := "ed489e288184ecd506cb3418d4d112b457514214e236909c8f8fda3322c92620", func := "loop.example/hawser/laws.FnExactWorldNew", spec := "fnExactWorldNew", apart := false, narrowed := true }
def FnExactWorldNewUptoSaid : Prop := fnExactWorldNewUptoRow.holds Try.pinned (OpenSpec.upto fnExactWorldNewSpec)

/-- 'laws.FnExactChainOk', WHERE WHAT IT READS IS OF BULK AT MOST 1048576: true; the input reads as it did. -/
def fnExactChainOkUptoRow : OpenClaim := { program := "ytapdcgjccckjeaa", sum := "ed489e288184ecd506cb3418d4d112b457514214e236909c8f8fda3322c92620", func := "loop.example/hawser/laws.FnExactChainOk", spec := "fnExactChainOk", apart := false, narrowed := true }
def FnExactChainOkUptoSaid : Prop := fnExactChainOkUptoRow.holds Try.pinned (OpenSpec.upto fnExactChainOkSpec)

/-- 'laws.FnExactChainNext', WHERE WHAT IT READS IS OF BULK AT MOST 1048576: true; the input reads as it did. -/
def fnExactChainNextUptoRow : OpenClaim := { program := "ytapdcgjccckjeaa", sum := "ed489e288184ecd506cb3418d4d112b457514214e236909c8f8fda3322c92620", func := "loop.example/hawser/laws.FnExactChainNext", spec := "fnExactChainNext", apart := false, narrowed := true }
def FnExactChainNextUptoSaid : Prop := fnExactChainNextUptoRow.holds Try.pinned (OpenSpec.upto fnExactChainNextSpec)

/-- 'laws.FnExactWorldOk', WHERE WHAT IT READS IS OF BULK AT MOST 1048576: true; the input reads as it did. -/
def fnExactWorldOkUptoRow : OpenClaim := { program := "ytapdcgjccckjeaa", sum := "ed489e288184ecd506cb3418d4d112b457514214e236909c8f8fda3322c92620", func := "loop.example/hawser/laws.FnExactWorldOk", spec := "fnExactWorldOk", apart := false, narrowed := true }
def FnExactWorldOkUptoSaid : Prop := fnExactWorldOkUptoRow.holds Try.pinned (OpenSpec.upto fnExactWorldOkSpec)

/-- 'laws.FnExactChainAt', WHERE WHAT IT READS IS OF BULK AT MOST 1048576: true; the input reads as it did. -/
def fnExactChainAtUptoRow : OpenClaim := { program := "ytapdcgjccckjeaa", sum := "ed489e288184ecd506cb3418d4d112b457514214e236909c8f8fda3322c92620", func := "loop.example/hawser/laws.FnExactChainAt", spec := "fnExactChainAt", apart := false, narrowed := true }
def FnExactChainAtUptoSaid : Prop := fnExactChainAtUptoRow.holds Try.pinned (OpenSpec.upto fnExactChainAtSpec)

/-- 'laws.FnExactChainBlock', WHERE WHAT IT READS IS OF BULK AT MOST 1048576: true; the input reads as it did. -/
def fnExactChainBlockUptoRow : OpenClaim := { program := "ytapdcgjccckjeaa", sum := "ed489e288184ecd506cb3418d4d112b457514214e236909c8f8fda3322c92620", func := "loop.example/hawser/laws.FnExactChainBlock", spec := "fnExactChainBlock", apart := false, narrowed := true }
def FnExactChainBlockUptoSaid : Prop := fnExactChainBlockUptoRow.holds Try.pinned (OpenSpec.upto fnExactChainBlockSpec)

/-- 'laws.FnExactChainSend', WHERE WHAT IT READS IS OF BULK AT MOST 1048576: true; the input reads as it did. -/
def fnExactChainSendUptoRow : OpenClaim := { program := "ytapdcgjccckjeaa", sum := "ed489e288184ecd506cb3418d4d112b457514214e236909c8f8fda3322c92620", func := "loop.example/hawser/laws.FnExactChainSend", spec := "fnExactChainSend", unfollowed := true, recurses := true, apart := false, narrowed := true }
def FnExactChainSendUptoSaid : Prop := fnExactChainSendUptoRow.holds Try.pinned (OpenSpec.upto fnExactChainSendSpec)

/-- 'laws.FnExactRelayLate', WHERE WHAT IT READS IS OF BULK AT MOST 1048576: true; the input reads as it did. -/
def fnExactRelayLateUptoRow : OpenClaim := { program := "ytapdcgjccckjeaa", sum := "ed489e288184ecd506cb3418d4d112b457514214e236909c8f8fda3322c92620", func := "loop.example/hawser/laws.FnExactRelayLate", spec := "fnExactRelayLate", unfollowed := true, recurses := true, apart := false, narrowed := true }
def FnExactRelayLateUptoSaid : Prop := fnExactRelayLateUptoRow.holds Try.pinned (OpenSpec.upto fnExactRelayLateSpec)

/-- 'laws.FnExactRelayTell', WHERE WHAT IT READS IS OF BULK AT MOST 1048576: true; the input reads as it did. -/
def fnExactRelayTellUptoRow : OpenClaim := { program := "ytapdcgjccckjeaa", sum := "ed489e288184ecd506cb3418d4d112b457514214e236909c8f8fda3322c92620", func := "loop.example/hawser/laws.FnExactRelayTell", spec := "fnExactRelayTell", unfollowed := true, recurses := true, apart := false, narrowed := true }
def FnExactRelayTellUptoSaid : Prop := fnExactRelayTellUptoRow.holds Try.pinned (OpenSpec.upto fnExactRelayTellSpec)

/-- 'laws.FnExactRelayGet', WHERE WHAT IT READS IS OF BULK AT MOST 1048576: true; the input reads as it did. -/
def fnExactRelayGetUptoRow : OpenClaim := { program := "ytapdcgjccckjeaa", sum := "ed489e288184ecd506cb3418d4d112b457514214e236909c8f8fda3322c92620", func := "loop.example/hawser/laws.FnExactRelayGet", spec := "fnExactRelayGet", unfollowed := true, recurses := true, apart := false, narrowed := true }
def FnExactRelayGetUptoSaid : Prop := fnExactRelayGetUptoRow.holds Try.pinned (OpenSpec.upto fnExactRelayGetSpec)

end Rows
end Go.Proofs.Ytapdcgjccckjeaa
