/-
  No cell of these rows narrows 'for every input' (looked for: loops, veiled, ifaces, maps, wideKeys, modest, calm, conditions, laid).
  DERIVED. THE GIVEN ROWS OF THIS SEAT. 15 by the template 'for every input the law returns true; each argument reads behind the call as it read before'; 0 by the template 'total and deterministic' (their statements: YtnpggjlhdnbgoaaTotals.lean).
  GIVEN WITH THE SEED: the statements are not yours to turn. If you find one false, say at which input.
  Laid BY PROGRAM, IN A SANDBOX (cutbox-rows.mjs): the forced cells as the released guide's own fill.sh prints them over the translation 377ba66d39327ecf… (all of the seat's roots in one cut). By AI agents, Wed Nov 11 2026. No macro, syntax, notation, axiom, sorry.
-/
import Derived.Test.YtnpggjlhdnbgoaaChecked
import GoSem.Claim
import GoSem.ClaimJoined
import GoSem.ClaimMapViews
import Derived.JoinedTies
import Derived.KernelRfl
namespace Go.Proofs.Ytnpggjlhdnbgoaa
/- THE CELL 'sum', in the pinned program and in every row, IS THE sha256 OF THE DUMP (.gsa) THAT YtnpggjlhdnbgoaaProg.lean LOADS. Nothing in Lean hashes anything: it is a label: what it is worth is what the hold of that sum in a sandbox is worth. -/
noncomputable def Try.pinned : Pinned := { name := "ytnpggjlhdnbgoaa", sum := "377ba66d39327ecf8acf32d708cc2b5eb72e9da0d3fe946a855b30e3bced28b8", checked := Try.checked }
namespace Rows
def none {H : Type} : Left H := { results := [], args := [] }

/-- 'laws.FnExactBankNew': WHATEVER THE INPUT: true; the input reads as it did. -/
def fnExactBankNewSpec : ChangeSpec := { name := "fnExactBankNew", fn := fun _ => fun
  | [] => { results := [.lit (.bool true)], args := [] }
  | _ => none }
def fnExactBankNewRow : OpenClaim := { program := "ytnpggjlhdnbgoaa", sum := "377ba66d39327ecf8acf32d708cc2b5eb72e9da0d3fe946a855b30e3bced28b8", func := "loop.example/hawser/laws.FnExactBankNew", spec := "fnExactBankNew", apart := false }
def FnExactBankNewSaid : Prop := fnExactBankNewRow.holds Try.pinned (OpenSpec.ofChange fnExactBankNewSpec)

/-- ITS FALSE NEIGHBOUR: 'it returns false'. Refute it at one input. -/
def fnExactBankNewWrong : ChangeSpec := { name := "fnExactBankNew", fn := fun _ => fun
  | [] => { results := [.lit (.bool false)], args := [] }
  | _ => none }
def FnExactBankNewWrongFalsely : Prop := fnExactBankNewRow.holds Try.pinned (OpenSpec.ofChange fnExactBankNewWrong)

/-- 'laws.FnExactBankOk': WHATEVER THE INPUT: true; the input reads as it did. -/
def fnExactBankOkSpec : ChangeSpec := { name := "fnExactBankOk", fn := fun _ => fun
  | [d] => { results := [.lit (.bool true)], args := [d] }
  | _ => none }
def fnExactBankOkRow : OpenClaim := { program := "ytnpggjlhdnbgoaa", sum := "377ba66d39327ecf8acf32d708cc2b5eb72e9da0d3fe946a855b30e3bced28b8", func := "loop.example/hawser/laws.FnExactBankOk", spec := "fnExactBankOk", apart := false }
def FnExactBankOkSaid : Prop := fnExactBankOkRow.holds Try.pinned (OpenSpec.ofChange fnExactBankOkSpec)

/-- ITS FALSE NEIGHBOUR: 'it returns false'. Refute it at one input. -/
def fnExactBankOkWrong : ChangeSpec := { name := "fnExactBankOk", fn := fun _ => fun
  | [d] => { results := [.lit (.bool false)], args := [d] }
  | _ => none }
def FnExactBankOkWrongFalsely : Prop := fnExactBankOkRow.holds Try.pinned (OpenSpec.ofChange fnExactBankOkWrong)

/-- 'laws.FnExactBankAll': WHATEVER THE INPUT: true; the input reads as it did. -/
def fnExactBankAllSpec : ChangeSpec := { name := "fnExactBankAll", fn := fun _ => fun
  | [d] => { results := [.lit (.bool true)], args := [d] }
  | _ => none }
def fnExactBankAllRow : OpenClaim := { program := "ytnpggjlhdnbgoaa", sum := "377ba66d39327ecf8acf32d708cc2b5eb72e9da0d3fe946a855b30e3bced28b8", func := "loop.example/hawser/laws.FnExactBankAll", spec := "fnExactBankAll", apart := false }
def FnExactBankAllSaid : Prop := fnExactBankAllRow.holds Try.pinned (OpenSpec.ofChange fnExactBankAllSpec)

/-- ITS FALSE NEIGHBOUR: 'it returns false'. Refute it at one input. -/
def fnExactBankAllWrong : ChangeSpec := { name := "fnExactBankAll", fn := fun _ => fun
  | [d] => { results := [.lit (.bool false)], args := [d] }
  | _ => none }
def FnExactBankAllWrongFalsely : Prop := fnExactBankAllRow.holds Try.pinned (OpenSpec.ofChange fnExactBankAllWrong)

/-- 'laws.FnBankBad': WHATEVER THE INPUT: true; the input reads as it did. -/
def fnBankBadSpec : ChangeSpec := { name := "fnBankBad", fn := fun _ => fun
  | [d1, d2] => { results := [.lit (.bool true)], args := [d1, d2] }
  | _ => none }
def fnBankBadRow : OpenClaim := { program := "ytnpggjlhdnbgoaa", sum := "377ba66d39327ecf8acf32d708cc2b5eb72e9da0d3fe946a855b30e3bced28b8", func := "loop.example/hawser/laws.FnBankBad", spec := "fnBankBad", apart := false }
def FnBankBadSaid : Prop := fnBankBadRow.holds Try.pinned (OpenSpec.ofChange fnBankBadSpec)

/-- ITS FALSE NEIGHBOUR: 'it returns false'. Refute it at one input. -/
def fnBankBadWrong : ChangeSpec := { name := "fnBankBad", fn := fun _ => fun
  | [d1, d2] => { results := [.lit (.bool false)], args := [d1, d2] }
  | _ => none }
def FnBankBadWrongFalsely : Prop := fnBankBadRow.holds Try.pinned (OpenSpec.ofChange fnBankBadWrong)

/-- 'laws.FnBankSum': WHATEVER THE INPUT: true; the input reads as it did. -/
def fnBankSumSpec : ChangeSpec := { name := "fnBankSum", fn := fun _ => fun
  | [d] => { results := [.lit (.bool true)], args := [d] }
  | _ => none }
def fnBankSumRow : OpenClaim := { program := "ytnpggjlhdnbgoaa", sum := "377ba66d39327ecf8acf32d708cc2b5eb72e9da0d3fe946a855b30e3bced28b8", func := "loop.example/hawser/laws.FnBankSum", spec := "fnBankSum", apart := false }
def FnBankSumSaid : Prop := fnBankSumRow.holds Try.pinned (OpenSpec.ofChange fnBankSumSpec)

/-- ITS FALSE NEIGHBOUR: 'it returns false'. Refute it at one input. -/
def fnBankSumWrong : ChangeSpec := { name := "fnBankSum", fn := fun _ => fun
  | [d] => { results := [.lit (.bool false)], args := [d] }
  | _ => none }
def FnBankSumWrongFalsely : Prop := fnBankSumRow.holds Try.pinned (OpenSpec.ofChange fnBankSumWrong)

/-- 'laws.FnExactBankMove': WHATEVER THE INPUT: true; the input reads as it did. -/
def fnExactBankMoveSpec : ChangeSpec := { name := "fnExactBankMove", fn := fun _ => fun
  | [d1, d2, d3, d4, d5] => { results := [.lit (.bool true)], args := [d1, d2, d3, d4, d5] }
  | _ => none }
def fnExactBankMoveRow : OpenClaim := { program := "ytnpggjlhdnbgoaa", sum := "377ba66d39327ecf8acf32d708cc2b5eb72e9da0d3fe946a855b30e3bced28b8", func := "loop.example/hawser/laws.FnExactBankMove", spec := "fnExactBankMove", unfollowed := true, recurses := true, apart := false }
def FnExactBankMoveSaid : Prop := fnExactBankMoveRow.holds Try.pinned (OpenSpec.ofChange fnExactBankMoveSpec)

/-- ITS FALSE NEIGHBOUR: 'it returns false'. Refute it at one input. -/
def fnExactBankMoveWrong : ChangeSpec := { name := "fnExactBankMove", fn := fun _ => fun
  | [d1, d2, d3, d4, d5] => { results := [.lit (.bool false)], args := [d1, d2, d3, d4, d5] }
  | _ => none }
def FnExactBankMoveWrongFalsely : Prop := fnExactBankMoveRow.holds Try.pinned (OpenSpec.ofChange fnExactBankMoveWrong)

/-- 'laws.FnMoveBack': WHATEVER THE INPUT: true; the input reads as it did. -/
def fnMoveBackSpec : ChangeSpec := { name := "fnMoveBack", fn := fun _ => fun
  | [d1, d2] => { results := [.lit (.bool true)], args := [d1, d2] }
  | _ => none }
def fnMoveBackRow : OpenClaim := { program := "ytnpggjlhdnbgoaa", sum := "377ba66d39327ecf8acf32d708cc2b5eb72e9da0d3fe946a855b30e3bced28b8", func := "loop.example/hawser/laws.FnMoveBack", spec := "fnMoveBack", unfollowed := true, recurses := true, apart := false }
def FnMoveBackSaid : Prop := fnMoveBackRow.holds Try.pinned (OpenSpec.ofChange fnMoveBackSpec)

/-- ITS FALSE NEIGHBOUR: 'it returns false'. Refute it at one input. -/
def fnMoveBackWrong : ChangeSpec := { name := "fnMoveBack", fn := fun _ => fun
  | [d1, d2] => { results := [.lit (.bool false)], args := [d1, d2] }
  | _ => none }
def FnMoveBackWrongFalsely : Prop := fnMoveBackRow.holds Try.pinned (OpenSpec.ofChange fnMoveBackWrong)

/-- 'laws.FnMoveTwo': WHATEVER THE INPUT: true; the input reads as it did. -/
def fnMoveTwoSpec : ChangeSpec := { name := "fnMoveTwo", fn := fun _ => fun
  | [d1, d2] => { results := [.lit (.bool true)], args := [d1, d2] }
  | _ => none }
def fnMoveTwoRow : OpenClaim := { program := "ytnpggjlhdnbgoaa", sum := "377ba66d39327ecf8acf32d708cc2b5eb72e9da0d3fe946a855b30e3bced28b8", func := "loop.example/hawser/laws.FnMoveTwo", spec := "fnMoveTwo", unfollowed := true, recurses := true, apart := false }
def FnMoveTwoSaid : Prop := fnMoveTwoRow.holds Try.pinned (OpenSpec.ofChange fnMoveTwoSpec)

/-- ITS FALSE NEIGHBOUR: 'it returns false'. Refute it at one input. -/
def fnMoveTwoWrong : ChangeSpec := { name := "fnMoveTwo", fn := fun _ => fun
  | [d1, d2] => { results := [.lit (.bool false)], args := [d1, d2] }
  | _ => none }
def FnMoveTwoWrongFalsely : Prop := fnMoveTwoRow.holds Try.pinned (OpenSpec.ofChange fnMoveTwoWrong)

/-- 'laws.FnExactBankAway': WHATEVER THE INPUT: true; the input reads as it did. -/
def fnExactBankAwaySpec : ChangeSpec := { name := "fnExactBankAway", fn := fun _ => fun
  | [d1, d2, d3, d4] => { results := [.lit (.bool true)], args := [d1, d2, d3, d4] }
  | _ => none }
def fnExactBankAwayRow : OpenClaim := { program := "ytnpggjlhdnbgoaa", sum := "377ba66d39327ecf8acf32d708cc2b5eb72e9da0d3fe946a855b30e3bced28b8", func := "loop.example/hawser/laws.FnExactBankAway", spec := "fnExactBankAway", unfollowed := true, recurses := true, apart := false }
def FnExactBankAwaySaid : Prop := fnExactBankAwayRow.holds Try.pinned (OpenSpec.ofChange fnExactBankAwaySpec)

/-- ITS FALSE NEIGHBOUR: 'it returns false'. Refute it at one input. -/
def fnExactBankAwayWrong : ChangeSpec := { name := "fnExactBankAway", fn := fun _ => fun
  | [d1, d2, d3, d4] => { results := [.lit (.bool false)], args := [d1, d2, d3, d4] }
  | _ => none }
def FnExactBankAwayWrongFalsely : Prop := fnExactBankAwayRow.holds Try.pinned (OpenSpec.ofChange fnExactBankAwayWrong)

/-- 'laws.FnAwayTwo': WHATEVER THE INPUT: true; the input reads as it did. -/
def fnAwayTwoSpec : ChangeSpec := { name := "fnAwayTwo", fn := fun _ => fun
  | [d1, d2] => { results := [.lit (.bool true)], args := [d1, d2] }
  | _ => none }
def fnAwayTwoRow : OpenClaim := { program := "ytnpggjlhdnbgoaa", sum := "377ba66d39327ecf8acf32d708cc2b5eb72e9da0d3fe946a855b30e3bced28b8", func := "loop.example/hawser/laws.FnAwayTwo", spec := "fnAwayTwo", unfollowed := true, recurses := true, apart := false }
def FnAwayTwoSaid : Prop := fnAwayTwoRow.holds Try.pinned (OpenSpec.ofChange fnAwayTwoSpec)

/-- ITS FALSE NEIGHBOUR: 'it returns false'. Refute it at one input. -/
def fnAwayTwoWrong : ChangeSpec := { name := "fnAwayTwo", fn := fun _ => fun
  | [d1, d2] => { results := [.lit (.bool false)], args := [d1, d2] }
  | _ => none }
def FnAwayTwoWrongFalsely : Prop := fnAwayTwoRow.holds Try.pinned (OpenSpec.ofChange fnAwayTwoWrong)

/-- 'laws.FnExactBankBack': WHATEVER THE INPUT: true; the input reads as it did. -/
def fnExactBankBackSpec : ChangeSpec := { name := "fnExactBankBack", fn := fun _ => fun
  | [d1, d2, d3, d4] => { results := [.lit (.bool true)], args := [d1, d2, d3, d4] }
  | _ => none }
def fnExactBankBackRow : OpenClaim := { program := "ytnpggjlhdnbgoaa", sum := "377ba66d39327ecf8acf32d708cc2b5eb72e9da0d3fe946a855b30e3bced28b8", func := "loop.example/hawser/laws.FnExactBankBack", spec := "fnExactBankBack", unfollowed := true, recurses := true, apart := false }
def FnExactBankBackSaid : Prop := fnExactBankBackRow.holds Try.pinned (OpenSpec.ofChange fnExactBankBackSpec)

/-- ITS FALSE NEIGHBOUR: 'it returns false'. Refute it at one input. -/
def fnExactBankBackWrong : ChangeSpec := { name := "fnExactBankBack", fn := fun _ => fun
  | [d1, d2, d3, d4] => { results := [.lit (.bool false)], args := [d1, d2, d3, d4] }
  | _ => none }
def FnExactBankBackWrongFalsely : Prop := fnExactBankBackRow.holds Try.pinned (OpenSpec.ofChange fnExactBankBackWrong)

/-- 'laws.FnMove': WHATEVER THE INPUT: true; the input reads as it did. -/
def fnMoveSpec : ChangeSpec := { name := "fnMove", fn := fun _ => fun
  | [d] => { results := [.lit (.bool true)], args := [d] }
  | _ => none }
def fnMoveRow : OpenClaim := { program := "ytnpggjlhdnbgoaa", sum := "377ba66d39327ecf8acf32d708cc2b5eb72e9da0d3fe946a855b30e3bced28b8", func := "loop.example/hawser/laws.FnMove", spec := "fnMove", unfollowed := true, recurses := true, apart := false }
def FnMoveSaid : Prop := fnMoveRow.holds Try.pinned (OpenSpec.ofChange fnMoveSpec)

/-- ITS FALSE NEIGHBOUR: 'it returns false'. Refute it at one input. -/
def fnMoveWrong : ChangeSpec := { name := "fnMove", fn := fun _ => fun
  | [d] => { results := [.lit (.bool false)], args := [d] }
  | _ => none }
def FnMoveWrongFalsely : Prop := fnMoveRow.holds Try.pinned (OpenSpec.ofChange fnMoveWrong)

/-- 'laws.FnAway': WHATEVER THE INPUT: true; the input reads as it did. -/
def fnAwaySpec : ChangeSpec := { name := "fnAway", fn := fun _ => fun
  | [d] => { results := [.lit (.bool true)], args := [d] }
  | _ => none }
def fnAwayRow : OpenClaim := { program := "ytnpggjlhdnbgoaa", sum := "377ba66d39327ecf8acf32d708cc2b5eb72e9da0d3fe946a855b30e3bced28b8", func := "loop.example/hawser/laws.FnAway", spec := "fnAway", unfollowed := true, recurses := true, apart := false }
def FnAwaySaid : Prop := fnAwayRow.holds Try.pinned (OpenSpec.ofChange fnAwaySpec)

/-- ITS FALSE NEIGHBOUR: 'it returns false'. Refute it at one input. -/
def fnAwayWrong : ChangeSpec := { name := "fnAway", fn := fun _ => fun
  | [d] => { results := [.lit (.bool false)], args := [d] }
  | _ => none }
def FnAwayWrongFalsely : Prop := fnAwayRow.holds Try.pinned (OpenSpec.ofChange fnAwayWrong)

/-- 'laws.FnAwayBack': WHATEVER THE INPUT: true; the input reads as it did. -/
def fnAwayBackSpec : ChangeSpec := { name := "fnAwayBack", fn := fun _ => fun
  | [d] => { results := [.lit (.bool true)], args := [d] }
  | _ => none }
def fnAwayBackRow : OpenClaim := { program := "ytnpggjlhdnbgoaa", sum := "377ba66d39327ecf8acf32d708cc2b5eb72e9da0d3fe946a855b30e3bced28b8", func := "loop.example/hawser/laws.FnAwayBack", spec := "fnAwayBack", unfollowed := true, recurses := true, apart := false }
def FnAwayBackSaid : Prop := fnAwayBackRow.holds Try.pinned (OpenSpec.ofChange fnAwayBackSpec)

/-- ITS FALSE NEIGHBOUR: 'it returns false'. Refute it at one input. -/
def fnAwayBackWrong : ChangeSpec := { name := "fnAwayBack", fn := fun _ => fun
  | [d] => { results := [.lit (.bool false)], args := [d] }
  | _ => none }
def FnAwayBackWrongFalsely : Prop := fnAwayBackRow.holds Try.pinned (OpenSpec.ofChange fnAwayBackWrong)

/-- 'laws.FnBack': WHATEVER THE INPUT: true; the input reads as it did. -/
def fnBackSpec : ChangeSpec := { name := "fnBack", fn := fun _ => fun
  | [d] => { results := [.lit (.bool true)], args := [d] }
  | _ => none }
def fnBackRow : OpenClaim := { program := "ytnpggjlhdnbgoaa", sum := "377ba66d39327ecf8acf32d708cc2b5eb72e9da0d3fe946a855b30e3bced28b8", func := "loop.example/hawser/laws.FnBack", spec := "fnBack", unfollowed := true, recurses := true, apart := false }
def FnBackSaid : Prop := fnBackRow.holds Try.pinned (OpenSpec.ofChange fnBackSpec)

/-- ITS FALSE NEIGHBOUR: 'it returns false'. Refute it at one input. -/
def fnBackWrong : ChangeSpec := { name := "fnBack", fn := fun _ => fun
  | [d] => { results := [.lit (.bool false)], args := [d] }
  | _ => none }
def FnBackWrongFalsely : Prop := fnBackRow.holds Try.pinned (OpenSpec.ofChange fnBackWrong)

/- THE SECOND FORM. 'bulk': how many values and letters a reading holds, each counted each time it is reached (what is shared counts as often as it is met; a slice's spare places count too). A statement '..UptoSaid' is the law's where the arguments, and the package variables that the reading takes, are together of bulk at most 1048576: NARROWER than '..Said'. Prove '..Said' where nothing that the law and all that it calls make is longer than what came in: it says more and counts as full. Else prove '..UptoSaid'. A law counts once. -/
mutual
def uptoBulk {H : Type} : DataW H → Nat
  | .lit (.string bytes) => bytes.length + 1
  | .lit _ => 1
  | .nil => 1
  | .ptr d => uptoBulk d + 1
  | .slice elems spare => uptoBulkAll elems + uptoBulkAll spare + 1
  | .agg parts => uptoBulkAll parts + 1
  | .iface _ d => uptoBulk d + 1
  | .map entries => uptoBulkEntries entries + 1
  | .held _ => 1
def uptoBulkAll {H : Type} : List (DataW H) → Nat
  | [] => 0
  | d :: r => uptoBulk d + uptoBulkAll r
def uptoBulkEntries {H : Type} : List (Lit × DataW H) → Nat
  | [] => 0
  | x :: r => uptoBulkEntry x + uptoBulkEntries r
def uptoBulkEntry {H : Type} : Lit × DataW H → Nat
  | (.string bytes, d) => bytes.length + uptoBulk d + 1
  | (_, d) => uptoBulk d + 1
 end
def uptoSmall : (H : Type) → List (DataW H) → Bool := fun _ ds => decide (uptoBulkAll ds ≤ 1048576)
def OpenSpec.upto (s : _root_.Go.ChangeSpec) : _root_.Go.OpenSpec := { _root_.Go.OpenSpec.ofChange s with cond := some uptoSmall }

/-- 'laws.FnExactBankNew', WHERE WHAT IT READS IS OF BULK AT MOST 1048576: true; the input reads as it did. -/
def fnExactBankNewUptoRow : OpenClaim := { program := "ytnpggjlhdnbgoaa", sum := "377ba66d39327ecf8acf32d708cc2b5eb72e9da0d3fe946a855b30e3bced28b8", func := "loop.example/hawser/laws.FnExactBankNew", spec := "fnExactBankNew", apart := false, narrowed := true }
def FnExactBankNewUptoSaid : Prop := fnExactBankNewUptoRow.holds Try.pinned (OpenSpec.upto fnExactBankNewSpec)

/-- 'laws.FnExactBankOk', WHERE WHAT IT READS IS OF BULK AT MOST 1048576: true; the input reads as it did. -/
def fnExactBankOkUptoRow : OpenClaim := { program := "ytnpggjlhdnbgoaa", sum := "377ba66d39327ecf8acf32d708cc2b5eb72e9da0d3fe946a855b30e3bced28b8", func := "loop.example/hawser/laws.FnExactBankOk", spec := "fnExactBankOk", apart := false, narrowed := true }
def FnExactBankOkUptoSaid : Prop := fnExactBankOkUptoRow.holds Try.pinned (OpenSpec.upto fnExactBankOkSpec)

/-- 'laws.FnExactBankAll', WHERE WHAT IT READS IS OF BULK AT MOST 1048576: true; the input reads as it did. -/
def fnExactBankAllUptoRow : OpenClaim := { program := "ytnpggjlhdnbgoaa", sum := "377ba66d39327ecf8acf32d708cc2b5eb72e9da0d3fe946a855b30e3bced28b8", func := "loop.example/hawser/laws.FnExactBankAll", spec := "fnExactBankAll", apart := false, narrowed := true }
def FnExactBankAllUptoSaid : Prop := fnExactBankAllUptoRow.holds Try.pinned (OpenSpec.upto fnExactBankAllSpec)

/-- 'laws.FnBankBad', WHERE WHAT IT READS IS OF BULK AT MOST 1048576: true; the input reads as it did. -/
def fnBankBadUptoRow : OpenClaim := { program := "ytnpggjlhdnbgoaa", sum := "377ba66d39327ecf8acf32d708cc2b5eb72e9da0d3fe946a855b30e3bced28b8", func := "loop.example/hawser/laws.FnBankBad", spec := "fnBankBad", apart := false, narrowed := true }
def FnBankBadUptoSaid : Prop := fnBankBadUptoRow.holds Try.pinned (OpenSpec.upto fnBankBadSpec)

/-- 'laws.FnBankSum', WHERE WHAT IT READS IS OF BULK AT MOST 1048576: true; the input reads as it did. -/
def fnBankSumUptoRow : OpenClaim := { program := "ytnpggjlhdnbgoaa", sum := "377ba66d39327ecf8acf32d708cc2b5eb72e9da0d3fe946a855b30e3bced28b8", func := "loop.example/hawser/laws.FnBankSum", spec := "fnBankSum", apart := false, narrowed := true }
def FnBankSumUptoSaid : Prop := fnBankSumUptoRow.holds Try.pinned (OpenSpec.upto fnBankSumSpec)

/-- 'laws.FnExactBankMove', WHERE WHAT IT READS IS OF BULK AT MOST 1048576: true; the input reads as it did. -/
def fnExactBankMoveUptoRow : OpenClaim := { program := "ytnpggjlhdnbgoaa", sum := "377ba66d39327ecf8acf32d708cc2b5eb72e9da0d3fe946a855b30e3bced28b8", func := "loop.example/hawser/laws.FnExactBankMove", spec := "fnExactBankMove", unfollowed := true, recurses := true, apart := false, narrowed := true }
def FnExactBankMoveUptoSaid : Prop := fnExactBankMoveUptoRow.holds Try.pinned (OpenSpec.upto fnExactBankMoveSpec)

/-- 'laws.FnMoveBack', WHERE WHAT IT READS IS OF BULK AT MOST 1048576: true; the input reads as it did. -/
def fnMoveBackUptoRow : OpenClaim := { program := "ytnpggjlhdnbgoaa", sum := "377ba66d39327ecf8acf32d708cc2b5eb72e9da0d3fe946a855b30e3bced28b8", func := "loop.example/hawser/laws.FnMoveBack", spec := "fnMoveBack", unfollowed := true, recurses := true, apart := false, narrowed := true }
def FnMoveBackUptoSaid : Prop := fnMoveBackUptoRow.holds Try.pinned (OpenSpec.upto fnMoveBackSpec)

/-- 'laws.FnMoveTwo', WHERE WHAT IT READS IS OF BULK AT MOST 1048576: true; the input reads as it did. -/
def fnMoveTwoUptoRow : OpenClaim := { program := "ytnpggjlhdnbgoaa", sum := "377ba66d39327ecf8acf32d708cc2b5eb72e9da0d3fe946a855b30e3bced28b8", func := "loop.example/hawser/laws.FnMoveTwo", spec := "fnMoveTwo", unfollowed := true, recurses := true, apart := false, narrowed := true }
def FnMoveTwoUptoSaid : Prop := fnMoveTwoUptoRow.holds Try.pinned (OpenSpec.upto fnMoveTwoSpec)

/-- 'laws.FnExactBankAway', WHERE WHAT IT READS IS OF BULK AT MOST 1048576: true; the input reads as it did. -/
def fnExactBankAwayUptoRow : OpenClaim := { program := "ytnpggjlhdnbgoaa", sum := "377ba66d39327ecf8acf32d708cc2b5eb72e9da0d3fe946a855b30e3bced28b8", func := "loop.example/hawser/laws.FnExactBankAway", spec := "fnExactBankAway", unfollowed := true, recurses := true, apart := false, narrowed := true }
def FnExactBankAwayUptoSaid : Prop := fnExactBankAwayUptoRow.holds Try.pinned (OpenSpec.upto fnExactBankAwaySpec)

/-- 'laws.FnAwayTwo', WHERE WHAT IT READS IS OF BULK AT MOST 1048576: true; the input reads as it did. -/
def fnAwayTwoUptoRow : OpenClaim := { program := "ytnpggjlhdnbgoaa", sum := "377ba66d39327ecf8acf32d708cc2b5eb72e9da0d3fe946a855b30e3bced28b8", func := "loop.example/hawser/laws.FnAwayTwo", spec := "fnAwayTwo", unfollowed := true, recurses := true, apart := false, narrowed := true }
def FnAwayTwoUptoSaid : Prop := fnAwayTwoUptoRow.holds Try.pinned (OpenSpec.upto fnAwayTwoSpec)

/-- 'laws.FnExactBankBack', WHERE WHAT IT READS IS OF BULK AT MOST 1048576: true; the input reads as it did. -/
def fnExactBankBackUptoRow : OpenClaim := { program := "ytnpggjlhdnbgoaa", sum := "377ba66d39327ecf8acf32d708cc2b5eb72e9da0d3fe946a855b30e3bced28b8", func := "loop.example/hawser/laws.FnExactBankBack", spec := "fnExactBankBack", unfollowed := true, recurses := true, apart := false, narrowed := true }
def FnExactBankBackUptoSaid : Prop := fnExactBankBackUptoRow.holds Try.pinned (OpenSpec.upto fnExactBankBackSpec)

/-- 'laws.FnMove', WHERE WHAT IT READS IS OF BULK AT MOST 1048576: true; the input reads as it did. -/
def fnMoveUptoRow : OpenClaim := { program := "ytnpggjlhdnbgoaa", sum := "377ba66d39327ecf8acf32d708cc2b5eb72e9da0d3fe946a855b30e3bced28b8", func := "loop.example/hawser/laws.FnMove", spec := "fnMove", unfollowed := true, recurses := true, apart := false, narrowed := true }
def FnMoveUptoSaid : Prop := fnMoveUptoRow.holds Try.pinned (OpenSpec.upto fnMoveSpec)

/-- 'laws.FnAway', WHERE WHAT IT READS IS OF BULK AT MOST 1048576: true; the input reads as it did. -/
def fnAwayUptoRow : OpenClaim := { program := "ytnpggjlhdnbgoaa", sum := "377ba66d39327ecf8acf32d708cc2b5eb72e9da0d3fe946a855b30e3bced28b8", func := "loop.example/hawser/laws.FnAway", spec := "fnAway", unfollowed := true, recurses := true, apart := false, narrowed := true }
def FnAwayUptoSaid : Prop := fnAwayUptoRow.holds Try.pinned (OpenSpec.upto fnAwaySpec)

/-- 'laws.FnAwayBack', WHERE WHAT IT READS IS OF BULK AT MOST 1048576: true; the input reads as it did. -/
def fnAwayBackUptoRow : OpenClaim := { program := "ytnpggjlhdnbgoaa", sum := "377ba66d39327ecf8acf32d708cc2b5eb72e9da0d3fe946a855b30e3bced28b8", func := "loop.example/hawser/laws.FnAwayBack", spec := "fnAwayBack", unfollowed := true, recurses := true, apart := false, narrowed := true }
def FnAwayBackUptoSaid : Prop := fnAwayBackUptoRow.holds Try.pinned (OpenSpec.upto fnAwayBackSpec)

/-- 'laws.FnBack', WHERE WHAT IT READS IS OF BULK AT MOST 1048576: true; the input reads as it did. -/
def fnBackUptoRow : OpenClaim := { program := "ytnpggjlhdnbgoaa", sum := "377ba66d39327ecf8acf32d708cc2b5eb72e9da0d3fe946a855b30e3bced28b8", func := "loop.example/hawser/laws.FnBack", spec := "fnBack", unfollowed := true, recurses := true, apart := false, narrowed := true }
def FnBackUptoSaid : Prop := fnBackUptoRow.holds Try.pinned (OpenSpec.upto fnBackSpec)

end Rows
end Go.Proofs.Ytnpggjlhdnbgoaa
