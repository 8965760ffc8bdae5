/- The texts Types, Ints, Users, Pk, PkTo, PkS, PkRow, PkToS, Bools, Num, St, PkMark, StMark, StHelp, Own. -/
import Derived.Test.YtapdcgjccckjeaaPkFnChainNewA
import Derived.Test.YtapdcgjccckjeaaProg
import Derived.KernelRfl
import Derived.RegionTactic
import Derived.StillTailTactics
import Derived.Deep.Slices
import Derived.ArgAppend
import Derived.OwnWalk
import Derived.Laws.CopyOwn
namespace Go.Proofs.Ytapdcgjccckjeaa
set_option maxRecDepth 100000
set_option linter.unusedVariables false
set_option linter.unusedSimpArgs false
open Go.RowKit
theorem ts26 : (Try.prog.info? 26).map (·.size) = some 3 := by kernel_rfl
theorem tz26 (w : World) : (zeroValue 26).run Try.prog w = .ok (.agg #[.slice none 0 0, .slice none 0 0, .int .i64 0]) w := by kernel_rfl
theorem ts52 : (Try.prog.info? 52).map (·.size) = some 3 := by kernel_rfl
theorem tz52 (w : World) : (zeroValue 52).run Try.prog w = .ok (.agg #[.slice none 0 0, .slice none 0 0, .int .i64 0]) w := by kernel_rfl
theorem ts88 : (Try.prog.info? 88).map (·.size) = some 7 := by kernel_rfl
theorem tz88 (w : World) : (zeroValue 88).run Try.prog w = .ok (.agg #[.int .i64 0, .int .i64 0, .int .i64 0, .int .i64 0, .int .i64 0, .int .i64 0, .int .i64 0]) w := by kernel_rfl
theorem ts86 : (Try.prog.info? 86).map (·.size) = some 7 := by kernel_rfl
theorem tz86 (w : World) : (zeroValue 86).run Try.prog w = .ok (.agg #[.int .i64 0, .int .i64 0, .int .i64 0, .int .i64 0, .int .i64 0, .int .i64 0, .int .i64 0]) w := by kernel_rfl
theorem ts30 : (Try.prog.info? 30).map (·.size) = some 7 := by kernel_rfl
theorem tz30 (w : World) : (zeroValue 30).run Try.prog w = .ok (.agg #[.int .i64 0, .int .i64 0, .int .i64 0, .slice none 0 0, .slice none 0 0, .slice none 0 0, .slice none 0 0]) w := by kernel_rfl
theorem ts55 : (Try.prog.info? 55).map (·.size) = some 7 := by kernel_rfl
theorem tz55 (w : World) : (zeroValue 55).run Try.prog w = .ok (.agg #[.int .i64 0, .int .i64 0, .int .i64 0, .slice none 0 0, .slice none 0 0, .slice none 0 0, .slice none 0 0]) w := by kernel_rfl
theorem ts33 : (Try.prog.info? 33).map (·.size) = some 13 := by kernel_rfl
theorem tz33 (w : World) : (zeroValue 33).run Try.prog w = .ok (.agg #[.int .i64 0, .slice none 0 0, .slice none 0 0, .int .i64 0, .int .i64 0, .int .i64 0, .int .i64 0, .slice none 0 0, .slice none 0 0, .slice none 0 0, .slice none 0 0, .slice none 0 0, .slice none 0 0]) w := by kernel_rfl
theorem ts58 : (Try.prog.info? 58).map (·.size) = some 13 := by kernel_rfl
theorem tz58 (w : World) : (zeroValue 58).run Try.prog w = .ok (.agg #[.int .i64 0, .slice none 0 0, .slice none 0 0, .int .i64 0, .int .i64 0, .int .i64 0, .int .i64 0, .slice none 0 0, .slice none 0 0, .slice none 0 0, .slice none 0 0, .slice none 0 0, .slice none 0 0]) w := by kernel_rfl
theorem ts47 : (Try.prog.info? 47).map (·.size) = some 1 := by kernel_rfl
theorem tz47 (w : World) : (zeroValue 47).run Try.prog w = .ok (.agg #[.slice none 0 0]) w := by kernel_rfl
theorem ts66 : (Try.prog.info? 66).map (·.size) = some 1 := by kernel_rfl
theorem tz66 (w : World) : (zeroValue 66).run Try.prog w = .ok (.agg #[.slice none 0 0]) w := by kernel_rfl
theorem ts133 : (Try.prog.info? 133).map (·.size) = some 2 := by kernel_rfl
theorem tz133 (w : World) : (zeroValue 133).run Try.prog w = .ok (.agg #[.slice none 0 0, .int .i64 0]) w := by kernel_rfl
theorem ts138 : (Try.prog.info? 138).map (·.size) = some 8 := by kernel_rfl
theorem tz138 (w : World) : (zeroValue 138).run Try.prog w = .ok (.agg #[.int .i64 0, .int .i64 0, .int .i64 0, .slice none 0 0, .slice none 0 0, .slice none 0 0, .slice none 0 0, .pointer none]) w := by kernel_rfl
theorem ts136 : (Try.prog.info? 136).map (·.size) = some 14 := by kernel_rfl
theorem tz136 (w : World) : (zeroValue 136).run Try.prog w = .ok (.agg #[.slice none 0 0, .slice none 0 0, .int .i64 0, .int .i64 0, .int .i64 0, .int .i64 0, .int .i64 0, .slice none 0 0, .slice none 0 0, .slice none 0 0, .slice none 0 0, .pointer none, .int .i64 0, .slice none 0 0]) w := by kernel_rfl
theorem ts142 : (Try.prog.info? 142).map (·.size) = some 2 := by kernel_rfl
theorem tz142 (w : World) : (zeroValue 142).run Try.prog w = .ok (.agg #[.pointer none, .pointer none]) w := by kernel_rfl
theorem ts140 : (Try.prog.info? 140).map (·.size) = some 2 := by kernel_rfl
theorem tz140 (w : World) : (zeroValue 140).run Try.prog w = .ok (.agg #[.pointer none, .pointer none]) w := by kernel_rfl
theorem ts129 : (Try.prog.info? 129).map (·.size) = some 8 := by kernel_rfl
theorem tz129 (w : World) : (zeroValue 129).run Try.prog w = .ok (.agg #[.int .i64 0, .int .i64 0, .int .i64 0, .slice none 0 0, .slice none 0 0, .slice none 0 0, .slice none 0 0, .int .i64 0]) w := by kernel_rfl
theorem ts197 : (Try.prog.info? 197).map (·.size) = some 7 := by kernel_rfl
theorem tz197 (w : World) : (zeroValue 197).run Try.prog w = .ok (.agg #[.int .i64 0, .int .i64 0, .int .i64 0, .int .i64 0, .int .i64 0, .int .i64 0, .int .i64 0]) w := by kernel_rfl
theorem ts3 : (Try.prog.info? 3).map (·.size) = some 1 := by kernel_rfl
theorem tz3 (w : World) : (zeroValue 3).run Try.prog w = .ok (.int .i64 0) w := by kernel_rfl
theorem ts4 : (Try.prog.info? 4).map (·.size) = some 1 := by kernel_rfl
theorem tz4 (w : World) : (zeroValue 4).run Try.prog w = .ok (.bool false) w := by kernel_rfl
theorem ts24 : (Try.prog.info? 24).map (·.size) = some 1 := by kernel_rfl
theorem tz24 (w : World) : (zeroValue 24).run Try.prog w = .ok (.slice none 0 0) w := by kernel_rfl
theorem ts28 : (Try.prog.info? 28).map (·.size) = some 1 := by kernel_rfl
theorem tz28 (w : World) : (zeroValue 28).run Try.prog w = .ok (.slice none 0 0) w := by kernel_rfl
theorem ts27 : (Try.prog.info? 27).map (·.size) = some 1 := by kernel_rfl
theorem tz27 (w : World) : (zeroValue 27).run Try.prog w = .ok (.slice none 0 0) w := by kernel_rfl
theorem ts53 : (Try.prog.info? 53).map (·.size) = some 1 := by kernel_rfl
theorem tz53 (w : World) : (zeroValue 53).run Try.prog w = .ok (.slice none 0 0) w := by kernel_rfl
theorem ts31 : (Try.prog.info? 31).map (·.size) = some 1 := by kernel_rfl
theorem tz31 (w : World) : (zeroValue 31).run Try.prog w = .ok (.slice none 0 0) w := by kernel_rfl
theorem ts56 : (Try.prog.info? 56).map (·.size) = some 1 := by kernel_rfl
theorem tz56 (w : World) : (zeroValue 56).run Try.prog w = .ok (.slice none 0 0) w := by kernel_rfl
theorem ts45 : (Try.prog.info? 45).map (·.size) = some 1 := by kernel_rfl
theorem tz45 (w : World) : (zeroValue 45).run Try.prog w = .ok (.slice none 0 0) w := by kernel_rfl
theorem ts64 : (Try.prog.info? 64).map (·.size) = some 1 := by kernel_rfl
theorem tz64 (w : World) : (zeroValue 64).run Try.prog w = .ok (.slice none 0 0) w := by kernel_rfl
theorem ts22 : (Try.prog.info? 22).map (·.size) = some 1 := by kernel_rfl
theorem tz22 (w : World) : (zeroValue 22).run Try.prog w = .ok (.slice none 0 0) w := by kernel_rfl
theorem ts95 : (Try.prog.info? 95).map (·.size) = some 1 := by kernel_rfl
theorem tz95 (w : World) : (zeroValue 95).run Try.prog w = .ok (.pointer none) w := by kernel_rfl
theorem ts134 : (Try.prog.info? 134).map (·.size) = some 1 := by kernel_rfl
theorem tz134 (w : World) : (zeroValue 134).run Try.prog w = .ok (.pointer none) w := by kernel_rfl
theorem ts106 : (Try.prog.info? 106).map (·.size) = some 1 := by kernel_rfl
theorem tz106 (w : World) : (zeroValue 106).run Try.prog w = .ok (.pointer none) w := by kernel_rfl
theorem ts151 : (Try.prog.info? 151).map (·.size) = some 1 := by kernel_rfl
theorem tz151 (w : World) : (zeroValue 151).run Try.prog w = .ok (.pointer none) w := by kernel_rfl
theorem ts91 : (Try.prog.info? 91).map (·.size) = some 1 := by kernel_rfl
theorem tz91 (w : World) : (zeroValue 91).run Try.prog w = .ok (.pointer none) w := by kernel_rfl
theorem ts5 : (Try.prog.info? 5).map (·.size) = some 1 := by kernel_rfl
theorem tz5 (w : World) : (zeroValue 5).run Try.prog w = .ok (.int .u8 0) w := by kernel_rfl
/-! ## Short arms: what the walks ask of types, boxes, loads and stores, found by itself -/
/-- A type's size, and whether it is a struct (or an array). -/
class TyInf (ty : Nat) (b : outParam Bool) (m : outParam Nat) : Prop where
  u : ∃ d, Try.prog.underlying ty = some d ∧ (match d with | .struct _ | .array _ _ => true | _ => false) = b
  s : (Try.prog.info? ty).map (·.size) = some m
/-- A type's zero value. -/
class TyZero (ty : Nat) (cs : outParam (List Value)) : Prop where
  z : ∀ w, ∃ z, (zeroValue ty).run Try.prog w = .ok z w ∧ z.cells = cs.toArray
/-- What 'make' and 'append' ask of an element's type; and which type's slices a type is. -/
class TyElem (e : Nat) (z : outParam Value) (m b : outParam Nat) : Prop where
  h : (Try.prog.info? e).map (fun i => (i.zero, i.size, i.bytes)) = some (some z, m, b)
class TySlc (t : Nat) (e : outParam Nat) : Prop where
  u : Try.prog.underlying t = some (.slice e)
instance : TyInf 26 true 3 := ⟨⟨_, Try.underlying26, rfl⟩, ts26⟩
instance : TyZero 26 [.slice none 0 0, .slice none 0 0, .int .i64 0] := ⟨fun w => ⟨_, tz26 w, rfl⟩⟩
theorem ti26 : (Try.prog.info? 26).map (fun i => (i.zero, i.size, i.bytes)) = some (some (.agg #[.slice none 0 0, .slice none 0 0, .int .i64 0]), 3, 56) := by kernel_rfl
instance : TyElem 26 (.agg #[.slice none 0 0, .slice none 0 0, .int .i64 0]) 3 56 := ⟨ti26⟩
instance : TyInf 52 true 3 := ⟨⟨_, Try.underlying52, rfl⟩, ts52⟩
instance : TyZero 52 [.slice none 0 0, .slice none 0 0, .int .i64 0] := ⟨fun w => ⟨_, tz52 w, rfl⟩⟩
theorem ti52 : (Try.prog.info? 52).map (fun i => (i.zero, i.size, i.bytes)) = some (some (.agg #[.slice none 0 0, .slice none 0 0, .int .i64 0]), 3, 56) := by kernel_rfl
instance : TyElem 52 (.agg #[.slice none 0 0, .slice none 0 0, .int .i64 0]) 3 56 := ⟨ti52⟩
instance : TyInf 88 true 7 := ⟨⟨_, Try.underlying88, rfl⟩, ts88⟩
instance : TyZero 88 [.int .i64 0, .int .i64 0, .int .i64 0, .int .i64 0, .int .i64 0, .int .i64 0, .int .i64 0] := ⟨fun w => ⟨_, tz88 w, rfl⟩⟩
theorem ti88 : (Try.prog.info? 88).map (fun i => (i.zero, i.size, i.bytes)) = some (some (.agg #[.int .i64 0, .int .i64 0, .int .i64 0, .int .i64 0, .int .i64 0, .int .i64 0, .int .i64 0]), 7, 56) := by kernel_rfl
instance : TyElem 88 (.agg #[.int .i64 0, .int .i64 0, .int .i64 0, .int .i64 0, .int .i64 0, .int .i64 0, .int .i64 0]) 7 56 := ⟨ti88⟩
instance : TyInf 86 true 7 := ⟨⟨_, Try.underlying86, rfl⟩, ts86⟩
instance : TyZero 86 [.int .i64 0, .int .i64 0, .int .i64 0, .int .i64 0, .int .i64 0, .int .i64 0, .int .i64 0] := ⟨fun w => ⟨_, tz86 w, rfl⟩⟩
theorem ti86 : (Try.prog.info? 86).map (fun i => (i.zero, i.size, i.bytes)) = some (some (.agg #[.int .i64 0, .int .i64 0, .int .i64 0, .int .i64 0, .int .i64 0, .int .i64 0, .int .i64 0]), 7, 56) := by kernel_rfl
instance : TyElem 86 (.agg #[.int .i64 0, .int .i64 0, .int .i64 0, .int .i64 0, .int .i64 0, .int .i64 0, .int .i64 0]) 7 56 := ⟨ti86⟩
instance : TyInf 30 true 7 := ⟨⟨_, Try.underlying30, rfl⟩, ts30⟩
instance : TyZero 30 [.int .i64 0, .int .i64 0, .int .i64 0, .slice none 0 0, .slice none 0 0, .slice none 0 0, .slice none 0 0] := ⟨fun w => ⟨_, tz30 w, rfl⟩⟩
theorem ti30 : (Try.prog.info? 30).map (fun i => (i.zero, i.size, i.bytes)) = some (some (.agg #[.int .i64 0, .int .i64 0, .int .i64 0, .slice none 0 0, .slice none 0 0, .slice none 0 0, .slice none 0 0]), 7, 120) := by kernel_rfl
instance : TyElem 30 (.agg #[.int .i64 0, .int .i64 0, .int .i64 0, .slice none 0 0, .slice none 0 0, .slice none 0 0, .slice none 0 0]) 7 120 := ⟨ti30⟩
instance : TyInf 55 true 7 := ⟨⟨_, Try.underlying55, rfl⟩, ts55⟩
instance : TyZero 55 [.int .i64 0, .int .i64 0, .int .i64 0, .slice none 0 0, .slice none 0 0, .slice none 0 0, .slice none 0 0] := ⟨fun w => ⟨_, tz55 w, rfl⟩⟩
theorem ti55 : (Try.prog.info? 55).map (fun i => (i.zero, i.size, i.bytes)) = some (some (.agg #[.int .i64 0, .int .i64 0, .int .i64 0, .slice none 0 0, .slice none 0 0, .slice none 0 0, .slice none 0 0]), 7, 120) := by kernel_rfl
instance : TyElem 55 (.agg #[.int .i64 0, .int .i64 0, .int .i64 0, .slice none 0 0, .slice none 0 0, .slice none 0 0, .slice none 0 0]) 7 120 := ⟨ti55⟩
instance : TyInf 33 true 13 := ⟨⟨_, Try.underlying33, rfl⟩, ts33⟩
instance : TyZero 33 [.int .i64 0, .slice none 0 0, .slice none 0 0, .int .i64 0, .int .i64 0, .int .i64 0, .int .i64 0, .slice none 0 0, .slice none 0 0, .slice none 0 0, .slice none 0 0, .slice none 0 0, .slice none 0 0] := ⟨fun w => ⟨_, tz33 w, rfl⟩⟩
theorem ti33 : (Try.prog.info? 33).map (fun i => (i.zero, i.size, i.bytes)) = some (some (.agg #[.int .i64 0, .slice none 0 0, .slice none 0 0, .int .i64 0, .int .i64 0, .int .i64 0, .int .i64 0, .slice none 0 0, .slice none 0 0, .slice none 0 0, .slice none 0 0, .slice none 0 0, .slice none 0 0]), 13, 232) := by kernel_rfl
instance : TyElem 33 (.agg #[.int .i64 0, .slice none 0 0, .slice none 0 0, .int .i64 0, .int .i64 0, .int .i64 0, .int .i64 0, .slice none 0 0, .slice none 0 0, .slice none 0 0, .slice none 0 0, .slice none 0 0, .slice none 0 0]) 13 232 := ⟨ti33⟩
instance : TyInf 58 true 13 := ⟨⟨_, Try.underlying58, rfl⟩, ts58⟩
instance : TyZero 58 [.int .i64 0, .slice none 0 0, .slice none 0 0, .int .i64 0, .int .i64 0, .int .i64 0, .int .i64 0, .slice none 0 0, .slice none 0 0, .slice none 0 0, .slice none 0 0, .slice none 0 0, .slice none 0 0] := ⟨fun w => ⟨_, tz58 w, rfl⟩⟩
theorem ti58 : (Try.prog.info? 58).map (fun i => (i.zero, i.size, i.bytes)) = some (some (.agg #[.int .i64 0, .slice none 0 0, .slice none 0 0, .int .i64 0, .int .i64 0, .int .i64 0, .int .i64 0, .slice none 0 0, .slice none 0 0, .slice none 0 0, .slice none 0 0, .slice none 0 0, .slice none 0 0]), 13, 232) := by kernel_rfl
instance : TyElem 58 (.agg #[.int .i64 0, .slice none 0 0, .slice none 0 0, .int .i64 0, .int .i64 0, .int .i64 0, .int .i64 0, .slice none 0 0, .slice none 0 0, .slice none 0 0, .slice none 0 0, .slice none 0 0, .slice none 0 0]) 13 232 := ⟨ti58⟩
instance : TyInf 47 true 1 := ⟨⟨_, Try.underlying47, rfl⟩, ts47⟩
instance : TyZero 47 [.slice none 0 0] := ⟨fun w => ⟨_, tz47 w, rfl⟩⟩
theorem ti47 : (Try.prog.info? 47).map (fun i => (i.zero, i.size, i.bytes)) = some (some (.agg #[.slice none 0 0]), 1, 24) := by kernel_rfl
instance : TyElem 47 (.agg #[.slice none 0 0]) 1 24 := ⟨ti47⟩
instance : TyInf 66 true 1 := ⟨⟨_, Try.underlying66, rfl⟩, ts66⟩
instance : TyZero 66 [.slice none 0 0] := ⟨fun w => ⟨_, tz66 w, rfl⟩⟩
theorem ti66 : (Try.prog.info? 66).map (fun i => (i.zero, i.size, i.bytes)) = some (some (.agg #[.slice none 0 0]), 1, 24) := by kernel_rfl
instance : TyElem 66 (.agg #[.slice none 0 0]) 1 24 := ⟨ti66⟩
instance : TyInf 133 true 2 := ⟨⟨_, Try.underlying133, rfl⟩, ts133⟩
instance : TyZero 133 [.slice none 0 0, .int .i64 0] := ⟨fun w => ⟨_, tz133 w, rfl⟩⟩
theorem ti133 : (Try.prog.info? 133).map (fun i => (i.zero, i.size, i.bytes)) = some (some (.agg #[.slice none 0 0, .int .i64 0]), 2, 32) := by kernel_rfl
instance : TyElem 133 (.agg #[.slice none 0 0, .int .i64 0]) 2 32 := ⟨ti133⟩
instance : TyInf 138 true 8 := ⟨⟨_, Try.underlying138, rfl⟩, ts138⟩
instance : TyZero 138 [.int .i64 0, .int .i64 0, .int .i64 0, .slice none 0 0, .slice none 0 0, .slice none 0 0, .slice none 0 0, .pointer none] := ⟨fun w => ⟨_, tz138 w, rfl⟩⟩
theorem ti138 : (Try.prog.info? 138).map (fun i => (i.zero, i.size, i.bytes)) = some (some (.agg #[.int .i64 0, .int .i64 0, .int .i64 0, .slice none 0 0, .slice none 0 0, .slice none 0 0, .slice none 0 0, .pointer none]), 8, 128) := by kernel_rfl
instance : TyElem 138 (.agg #[.int .i64 0, .int .i64 0, .int .i64 0, .slice none 0 0, .slice none 0 0, .slice none 0 0, .slice none 0 0, .pointer none]) 8 128 := ⟨ti138⟩
instance : TyInf 136 true 14 := ⟨⟨_, Try.underlying136, rfl⟩, ts136⟩
instance : TyZero 136 [.slice none 0 0, .slice none 0 0, .int .i64 0, .int .i64 0, .int .i64 0, .int .i64 0, .int .i64 0, .slice none 0 0, .slice none 0 0, .slice none 0 0, .slice none 0 0, .pointer none, .int .i64 0, .slice none 0 0] := ⟨fun w => ⟨_, tz136 w, rfl⟩⟩
theorem ti136 : (Try.prog.info? 136).map (fun i => (i.zero, i.size, i.bytes)) = some (some (.agg #[.slice none 0 0, .slice none 0 0, .int .i64 0, .int .i64 0, .int .i64 0, .int .i64 0, .int .i64 0, .slice none 0 0, .slice none 0 0, .slice none 0 0, .slice none 0 0, .pointer none, .int .i64 0, .slice none 0 0]), 14, 224) := by kernel_rfl
instance : TyElem 136 (.agg #[.slice none 0 0, .slice none 0 0, .int .i64 0, .int .i64 0, .int .i64 0, .int .i64 0, .int .i64 0, .slice none 0 0, .slice none 0 0, .slice none 0 0, .slice none 0 0, .pointer none, .int .i64 0, .slice none 0 0]) 14 224 := ⟨ti136⟩
instance : TyInf 142 true 2 := ⟨⟨_, Try.underlying142, rfl⟩, ts142⟩
instance : TyZero 142 [.pointer none, .pointer none] := ⟨fun w => ⟨_, tz142 w, rfl⟩⟩
theorem ti142 : (Try.prog.info? 142).map (fun i => (i.zero, i.size, i.bytes)) = some (some (.agg #[.pointer none, .pointer none]), 2, 16) := by kernel_rfl
instance : TyElem 142 (.agg #[.pointer none, .pointer none]) 2 16 := ⟨ti142⟩
instance : TyInf 140 true 2 := ⟨⟨_, Try.underlying140, rfl⟩, ts140⟩
instance : TyZero 140 [.pointer none, .pointer none] := ⟨fun w => ⟨_, tz140 w, rfl⟩⟩
theorem ti140 : (Try.prog.info? 140).map (fun i => (i.zero, i.size, i.bytes)) = some (some (.agg #[.pointer none, .pointer none]), 2, 16) := by kernel_rfl
instance : TyElem 140 (.agg #[.pointer none, .pointer none]) 2 16 := ⟨ti140⟩
instance : TyInf 129 true 8 := ⟨⟨_, Try.underlying129, rfl⟩, ts129⟩
instance : TyZero 129 [.int .i64 0, .int .i64 0, .int .i64 0, .slice none 0 0, .slice none 0 0, .slice none 0 0, .slice none 0 0, .int .i64 0] := ⟨fun w => ⟨_, tz129 w, rfl⟩⟩
theorem ti129 : (Try.prog.info? 129).map (fun i => (i.zero, i.size, i.bytes)) = some (some (.agg #[.int .i64 0, .int .i64 0, .int .i64 0, .slice none 0 0, .slice none 0 0, .slice none 0 0, .slice none 0 0, .int .i64 0]), 8, 128) := by kernel_rfl
instance : TyElem 129 (.agg #[.int .i64 0, .int .i64 0, .int .i64 0, .slice none 0 0, .slice none 0 0, .slice none 0 0, .slice none 0 0, .int .i64 0]) 8 128 := ⟨ti129⟩
instance : TyInf 197 true 7 := ⟨⟨_, Try.underlying197, rfl⟩, ts197⟩
instance : TyZero 197 [.int .i64 0, .int .i64 0, .int .i64 0, .int .i64 0, .int .i64 0, .int .i64 0, .int .i64 0] := ⟨fun w => ⟨_, tz197 w, rfl⟩⟩
theorem ti197 : (Try.prog.info? 197).map (fun i => (i.zero, i.size, i.bytes)) = some (some (.agg #[.int .i64 0, .int .i64 0, .int .i64 0, .int .i64 0, .int .i64 0, .int .i64 0, .int .i64 0]), 7, 56) := by kernel_rfl
instance : TyElem 197 (.agg #[.int .i64 0, .int .i64 0, .int .i64 0, .int .i64 0, .int .i64 0, .int .i64 0, .int .i64 0]) 7 56 := ⟨ti197⟩
instance : TyInf 3 false 1 := ⟨⟨_, Try.underlying3, rfl⟩, ts3⟩
instance : TyZero 3 [.int .i64 0] := ⟨fun w => ⟨_, tz3 w, rfl⟩⟩
theorem ti3 : (Try.prog.info? 3).map (fun i => (i.zero, i.size, i.bytes)) = some (some (.int .i64 0), 1, 8) := by kernel_rfl
instance : TyElem 3 (.int .i64 0) 1 8 := ⟨ti3⟩
instance : TyInf 4 false 1 := ⟨⟨_, Try.underlying4, rfl⟩, ts4⟩
instance : TyZero 4 [.bool false] := ⟨fun w => ⟨_, tz4 w, rfl⟩⟩
theorem ti4 : (Try.prog.info? 4).map (fun i => (i.zero, i.size, i.bytes)) = some (some (.bool false), 1, 1) := by kernel_rfl
instance : TyElem 4 (.bool false) 1 1 := ⟨ti4⟩
instance : TyInf 24 false 1 := ⟨⟨_, Try.underlying24, rfl⟩, ts24⟩
instance : TyZero 24 [.slice none 0 0] := ⟨fun w => ⟨_, tz24 w, rfl⟩⟩
theorem ti24 : (Try.prog.info? 24).map (fun i => (i.zero, i.size, i.bytes)) = some (some (.slice none 0 0), 1, 24) := by kernel_rfl
instance : TyElem 24 (.slice none 0 0) 1 24 := ⟨ti24⟩
instance : TySlc 24 3 := ⟨Try.underlying24⟩
instance : TyInf 28 false 1 := ⟨⟨_, Try.underlying28, rfl⟩, ts28⟩
instance : TyZero 28 [.slice none 0 0] := ⟨fun w => ⟨_, tz28 w, rfl⟩⟩
theorem ti28 : (Try.prog.info? 28).map (fun i => (i.zero, i.size, i.bytes)) = some (some (.slice none 0 0), 1, 24) := by kernel_rfl
instance : TyElem 28 (.slice none 0 0) 1 24 := ⟨ti28⟩
instance : TySlc 28 4 := ⟨Try.underlying28⟩
instance : TyInf 27 false 1 := ⟨⟨_, Try.underlying27, rfl⟩, ts27⟩
instance : TyZero 27 [.slice none 0 0] := ⟨fun w => ⟨_, tz27 w, rfl⟩⟩
theorem ti27 : (Try.prog.info? 27).map (fun i => (i.zero, i.size, i.bytes)) = some (some (.slice none 0 0), 1, 24) := by kernel_rfl
instance : TyElem 27 (.slice none 0 0) 1 24 := ⟨ti27⟩
instance : TySlc 27 88 := ⟨Try.underlying27⟩
instance : TyInf 53 false 1 := ⟨⟨_, Try.underlying53, rfl⟩, ts53⟩
instance : TyZero 53 [.slice none 0 0] := ⟨fun w => ⟨_, tz53 w, rfl⟩⟩
theorem ti53 : (Try.prog.info? 53).map (fun i => (i.zero, i.size, i.bytes)) = some (some (.slice none 0 0), 1, 24) := by kernel_rfl
instance : TyElem 53 (.slice none 0 0) 1 24 := ⟨ti53⟩
instance : TySlc 53 86 := ⟨Try.underlying53⟩
instance : TyInf 31 false 1 := ⟨⟨_, Try.underlying31, rfl⟩, ts31⟩
instance : TyZero 31 [.slice none 0 0] := ⟨fun w => ⟨_, tz31 w, rfl⟩⟩
theorem ti31 : (Try.prog.info? 31).map (fun i => (i.zero, i.size, i.bytes)) = some (some (.slice none 0 0), 1, 24) := by kernel_rfl
instance : TyElem 31 (.slice none 0 0) 1 24 := ⟨ti31⟩
instance : TySlc 31 30 := ⟨Try.underlying31⟩
instance : TyInf 56 false 1 := ⟨⟨_, Try.underlying56, rfl⟩, ts56⟩
instance : TyZero 56 [.slice none 0 0] := ⟨fun w => ⟨_, tz56 w, rfl⟩⟩
theorem ti56 : (Try.prog.info? 56).map (fun i => (i.zero, i.size, i.bytes)) = some (some (.slice none 0 0), 1, 24) := by kernel_rfl
instance : TyElem 56 (.slice none 0 0) 1 24 := ⟨ti56⟩
instance : TySlc 56 55 := ⟨Try.underlying56⟩
instance : TyInf 45 false 1 := ⟨⟨_, Try.underlying45, rfl⟩, ts45⟩
instance : TyZero 45 [.slice none 0 0] := ⟨fun w => ⟨_, tz45 w, rfl⟩⟩
theorem ti45 : (Try.prog.info? 45).map (fun i => (i.zero, i.size, i.bytes)) = some (some (.slice none 0 0), 1, 24) := by kernel_rfl
instance : TyElem 45 (.slice none 0 0) 1 24 := ⟨ti45⟩
instance : TySlc 45 33 := ⟨Try.underlying45⟩
instance : TyInf 64 false 1 := ⟨⟨_, Try.underlying64, rfl⟩, ts64⟩
instance : TyZero 64 [.slice none 0 0] := ⟨fun w => ⟨_, tz64 w, rfl⟩⟩
theorem ti64 : (Try.prog.info? 64).map (fun i => (i.zero, i.size, i.bytes)) = some (some (.slice none 0 0), 1, 24) := by kernel_rfl
instance : TyElem 64 (.slice none 0 0) 1 24 := ⟨ti64⟩
instance : TySlc 64 58 := ⟨Try.underlying64⟩
instance : TyInf 22 false 1 := ⟨⟨_, Try.underlying22, rfl⟩, ts22⟩
instance : TyZero 22 [.slice none 0 0] := ⟨fun w => ⟨_, tz22 w, rfl⟩⟩
theorem ti22 : (Try.prog.info? 22).map (fun i => (i.zero, i.size, i.bytes)) = some (some (.slice none 0 0), 1, 24) := by kernel_rfl
instance : TyElem 22 (.slice none 0 0) 1 24 := ⟨ti22⟩
instance : TySlc 22 5 := ⟨Try.underlying22⟩
instance : TyInf 95 false 1 := ⟨⟨_, Try.underlying95, rfl⟩, ts95⟩
instance : TyZero 95 [.pointer none] := ⟨fun w => ⟨_, tz95 w, rfl⟩⟩
theorem ti95 : (Try.prog.info? 95).map (fun i => (i.zero, i.size, i.bytes)) = some (some (.pointer none), 1, 8) := by kernel_rfl
instance : TyElem 95 (.pointer none) 1 8 := ⟨ti95⟩
instance : TyInf 134 false 1 := ⟨⟨_, Try.underlying134, rfl⟩, ts134⟩
instance : TyZero 134 [.pointer none] := ⟨fun w => ⟨_, tz134 w, rfl⟩⟩
theorem ti134 : (Try.prog.info? 134).map (fun i => (i.zero, i.size, i.bytes)) = some (some (.pointer none), 1, 8) := by kernel_rfl
instance : TyElem 134 (.pointer none) 1 8 := ⟨ti134⟩
instance : TyInf 106 false 1 := ⟨⟨_, Try.underlying106, rfl⟩, ts106⟩
instance : TyZero 106 [.pointer none] := ⟨fun w => ⟨_, tz106 w, rfl⟩⟩
theorem ti106 : (Try.prog.info? 106).map (fun i => (i.zero, i.size, i.bytes)) = some (some (.pointer none), 1, 8) := by kernel_rfl
instance : TyElem 106 (.pointer none) 1 8 := ⟨ti106⟩
instance : TyInf 151 false 1 := ⟨⟨_, Try.underlying151, rfl⟩, ts151⟩
instance : TyZero 151 [.pointer none] := ⟨fun w => ⟨_, tz151 w, rfl⟩⟩
theorem ti151 : (Try.prog.info? 151).map (fun i => (i.zero, i.size, i.bytes)) = some (some (.pointer none), 1, 8) := by kernel_rfl
instance : TyElem 151 (.pointer none) 1 8 := ⟨ti151⟩
instance : TyInf 91 false 1 := ⟨⟨_, Try.underlying91, rfl⟩, ts91⟩
instance : TyZero 91 [.pointer none] := ⟨fun w => ⟨_, tz91 w, rfl⟩⟩
theorem ti91 : (Try.prog.info? 91).map (fun i => (i.zero, i.size, i.bytes)) = some (some (.pointer none), 1, 8) := by kernel_rfl
instance : TyElem 91 (.pointer none) 1 8 := ⟨ti91⟩
instance : TyInf 5 false 1 := ⟨⟨_, Try.underlying5, rfl⟩, ts5⟩
instance : TyZero 5 [.int .u8 0] := ⟨fun w => ⟨_, tz5 w, rfl⟩⟩
theorem ti5 : (Try.prog.info? 5).map (fun i => (i.zero, i.size, i.bytes)) = some (some (.int .u8 0), 1, 1) := by kernel_rfl
instance : TyElem 5 (.int .u8 0) 1 1 := ⟨ti5⟩
section
variable {ops : Array Oper} {rest : List Oper} {o : Oper} {a : Act} {Q : Exit → Act → World → Prop} {W w0 : World} {F0 : List Nat} {L L' : List Asrt} {K : Act → World → Prop}
theorem aBx {t n : Nat} {b : Bool} {x : Operand} {cs : List Value} (S : Sep F0 w0 L W) (h : ∀ g w1, W.heap.size ≤ g → Sep F0 w0 (aBox g t n cs :: L) w1 → wpList Try.prog ops Q rest (a.put o.dst (.pointer (some ⟨g, 0, none⟩))) w1) (hw : Region.wanted o (yielded ops a.tmps) = true := by exact rfl) (ho : o.op = .box t x := by exact rfl) (hi : TyInf t b n := by exact inferInstance) (hx : (a.eval x).cells = cs.toArray := by exact rfl) (hn : cs.length = n := by first | exact rfl | exact S.len' (by (repeat (first | with_reducible exact List.mem_cons_self | with_reducible apply List.mem_cons_of_mem)) <;> fail) (by exact rfl) | assumption | exact (Go.RowKit.Hid.out (by assumption))) : wpList Try.prog ops Q (o :: rest) a W := wpList_sbox S hw t x ho n cs hx hn h
theorem aAl {t n : Nat} {b : Bool} {cs : List Value} (S : Sep F0 w0 L W) (h : ∀ g w1, W.heap.size ≤ g → Sep F0 w0 (aBox g t n cs :: L) w1 → wpList Try.prog ops Q rest (a.put o.dst (.pointer (some ⟨g, 0, none⟩))) w1) (hw : Region.wanted o (yielded ops a.tmps) = true := by exact rfl) (ho : o.op = .alloc t := by exact rfl) (hi : TyInf t b n := by exact inferInstance) (hz : TyZero t cs := by exact inferInstance) (hn : cs.length = n := by exact rfl) : wpList Try.prog ops Q (o :: rest) a W := by
  obtain ⟨z, h1, h2⟩ := hz.z W
  exact wpList_salloc S hw t ho z h1 n cs h2 hn h
theorem aLd {t ty n g : Nat} {x : Operand} {cs : List Value} (S : Sep F0 w0 L W) (h : wpList Try.prog ops Q rest (a.put o.dst (.agg cs.toArray)) W) (hw : Region.wanted o (yielded ops a.tmps) = true := by exact rfl) (ho : o.op = .load ty x := by exact rfl) (hi : TyInf ty true n := by exact inferInstance) (hx : a.eval x = .pointer (some ⟨g, 0, none⟩) := by exact rfl) (hm : aBox g t n cs ∈ L := by (repeat (first | with_reducible exact List.mem_cons_self | with_reducible apply List.mem_cons_of_mem)) <;> fail) : wpList Try.prog ops Q (o :: rest) a W := by
  obtain ⟨d, h1, h2⟩ := hi.u
  exact wpList_sload S hw ty x ho hx hm d h1 (by cases d <;> exact h2) hi.s h
theorem aPt {t ty n m g j : Nat} {x : Operand} {cs vs : List Value} (S : Sep F0 w0 L W) (h : wpList Try.prog ops Q rest (a.put o.dst (.agg vs.toArray)) W) (hw : Region.wanted o (yielded ops a.tmps) = true := by exact rfl) (ho : o.op = .load ty x := by exact rfl) (hi : TyInf ty true m := by exact inferInstance) (hx : a.eval x = .pointer (some ⟨g, j, none⟩) := by exact rfl) (hm : aBox g t n cs ∈ L := by (repeat (first | with_reducible exact List.mem_cons_self | with_reducible apply List.mem_cons_of_mem)) <;> fail) (hj : j + m ≤ n := by decide) (hv : (cs.drop j).take m = vs := by (conv => lhs; simp only [List.drop_succ_cons, List.drop_zero, List.take_succ_cons, List.take_zero, List.set_cons_succ, List.set_cons_zero, List.cons_append, List.nil_append, List.append_nil, List.drop_nil, Nat.reduceAdd]); try exact rfl) : wpList Try.prog ops Q (o :: rest) a W := by
  obtain ⟨d, h1, h2⟩ := hi.u
  exact wpList_spart S hw ty x ho hx hm d h1 (by cases d <;> exact h2) hi.s hj vs hv h
theorem aL1 {t ty n m g j : Nat} {x : Operand} {cs : List Value} {v : Value} (S : Sep F0 w0 L W) (h : wpList Try.prog ops Q rest (a.put o.dst v) W) (hw : Region.wanted o (yielded ops a.tmps) = true := by exact rfl) (ho : o.op = .load ty x := by exact rfl) (hi : TyInf ty false m := by exact inferInstance) (hx : a.eval x = .pointer (some ⟨g, j, none⟩) := by exact rfl) (hm : aBox g t n cs ∈ L := by (repeat (first | with_reducible exact List.mem_cons_self | with_reducible apply List.mem_cons_of_mem)) <;> fail) (hv : cs[j]? = some v := by (conv => lhs; simp only [List.getElem?_cons_succ, List.getElem?_cons_zero]); try exact rfl) : wpList Try.prog ops Q (o :: rest) a W := by
  obtain ⟨d, h1, h2⟩ := hi.u
  exact wpList_sload1 S hw ty x ho hx hm d h1 (by cases d <;> exact h2) v hv h
theorem aSt {t ty n g : Nat} {b : Bool} {x y : Operand} {ls cs : List Value} (S : Sep F0 w0 L W) (h : ∀ w1, Sep F0 w0 L' w1 → wpList Try.prog ops Q rest (a.put o.dst undef) w1) (hw : Region.wanted o (yielded ops a.tmps) = true := by exact rfl) (ho : o.op = .store ty x y := by exact rfl) (hi : TyInf ty b n := by exact inferInstance) (hx : a.eval x = .pointer (some ⟨g, 0, none⟩) := by exact rfl) (hy : (a.eval y).cells = ls.toArray := by exact rfl) (hp : Put L (aBox g t n cs) (aBox g t n ls) L' := by (repeat (first | with_reducible exact Put.head _ _ _ | with_reducible apply Put.tail)) <;> fail) (hl : ls.length = n := by first | exact rfl | exact S.len' (by (repeat (first | with_reducible exact List.mem_cons_self | with_reducible apply List.mem_cons_of_mem)) <;> fail) (by exact rfl) | assumption | exact (Go.RowKit.Hid.out (by assumption))) (h1 : ∀ u ∈ ls, u.oneCell' = true := by first | assumption | exact S.one (by (repeat (first | with_reducible exact List.mem_cons_self | with_reducible apply List.mem_cons_of_mem)) <;> fail) | ((repeat (first | exact one_nil | refine one_cons (by first | exact rfl | exact S.rowOne (by (repeat (first | with_reducible exact List.mem_cons_self | with_reducible apply List.mem_cons_of_mem)) <;> fail) | assumption) ?_)) <;> fail)) : wpList Try.prog ops Q (o :: rest) a W := wpList_sput S hw ty x y ho hx ls hy hp hi.s hl h1 h
theorem aSp {t ty n m g j : Nat} {b : Bool} {x y : Operand} {ls cs cs' : List Value} (S : Sep F0 w0 L W) (h : ∀ w1, Sep F0 w0 L' w1 → wpList Try.prog ops Q rest (a.put o.dst undef) w1) (hw : Region.wanted o (yielded ops a.tmps) = true := by exact rfl) (ho : o.op = .store ty x y := by exact rfl) (hi : TyInf ty b m := by exact inferInstance) (hx : a.eval x = .pointer (some ⟨g, j, none⟩) := by exact rfl) (hy : (a.eval y).cells = ls.toArray := by exact rfl) (hm : aBox g t n cs ∈ L := by (repeat (first | with_reducible exact List.mem_cons_self | with_reducible apply List.mem_cons_of_mem)) <;> fail) (hl : ls.length = m := by first | exact rfl | exact S.len' (by (repeat (first | with_reducible exact List.mem_cons_self | with_reducible apply List.mem_cons_of_mem)) <;> fail) (by exact rfl) | assumption | exact (Go.RowKit.Hid.out (by assumption))) (h1 : ∀ u ∈ ls, u.oneCell' = true := by first | assumption | exact S.one (by (repeat (first | with_reducible exact List.mem_cons_self | with_reducible apply List.mem_cons_of_mem)) <;> fail) | ((repeat (first | exact one_nil | refine one_cons (by first | exact rfl | exact S.rowOne (by (repeat (first | with_reducible exact List.mem_cons_self | with_reducible apply List.mem_cons_of_mem)) <;> fail) | assumption) ?_)) <;> fail)) (hj : j + m ≤ n := by decide) (hv : cs.take j ++ (ls ++ cs.drop (j + m)) = cs' := by (conv => lhs; simp only [List.drop_succ_cons, List.drop_zero, List.take_succ_cons, List.take_zero, List.set_cons_succ, List.set_cons_zero, List.cons_append, List.nil_append, List.append_nil, List.drop_nil, Nat.reduceAdd]); try exact rfl) (hp : Put L (aBox g t n cs) (aBox g t n cs') L' := by (repeat (first | with_reducible exact Put.head _ _ _ | with_reducible apply Put.tail)) <;> fail) : wpList Try.prog ops Q (o :: rest) a W := wpList_sputp S hw ty x y ho hx ls hy hm hi.s hl h1 hj hv hp h
theorem aS1 {t ty n g j : Nat} {b : Bool} {x y : Operand} {v : Value} {cs cs' : List Value} (S : Sep F0 w0 L W) (h : ∀ w1, Sep F0 w0 L' w1 → wpList Try.prog ops Q rest (a.put o.dst undef) w1) (hw : Region.wanted o (yielded ops a.tmps) = true := by exact rfl) (ho : o.op = .store ty x y := by exact rfl) (hi : TyInf ty b 1 := by exact inferInstance) (hx : a.eval x = .pointer (some ⟨g, j, none⟩) := by exact rfl) (hy : a.eval y = v := by (conv => lhs; whnf); try exact rfl) (hm : aBox g t n cs ∈ L := by (repeat (first | with_reducible exact List.mem_cons_self | with_reducible apply List.mem_cons_of_mem)) <;> fail) (h1 : v.oneCell' = true := by first | exact rfl | exact S.rowOne (by (repeat (first | with_reducible exact List.mem_cons_self | with_reducible apply List.mem_cons_of_mem)) <;> fail) | assumption) (hj : j < n := by decide) (hv : cs.set j v = cs' := by (conv => lhs; simp only [List.drop_succ_cons, List.drop_zero, List.take_succ_cons, List.take_zero, List.set_cons_succ, List.set_cons_zero, List.cons_append, List.nil_append, List.append_nil, List.drop_nil, Nat.reduceAdd]); try exact rfl) (hp : Put L (aBox g t n cs) (aBox g t n cs') L' := by (repeat (first | with_reducible exact Put.head _ _ _ | with_reducible apply Put.tail)) <;> fail) : wpList Try.prog ops Q (o :: rest) a W := wpList_sput1 S hw ty x y ho hx v (by rw [hy]; exact cells_of_one h1) hm h1 hi.s hj hv hp h
theorem rgBx {t n : Nat} {b : Bool} {x : Operand} {cs : List Value} (S : Sep F0 w0 L W) (h : ∀ g w1, W.heap.size ≤ g → Sep F0 w0 (aBox g t n cs :: L) w1 → K (a.put o.dst (.pointer (some ⟨g, 0, none⟩))) w1) (hw : Region.wanted o (yielded ops a.tmps) = true := by exact rfl) (ho : o.op = .box t x := by exact rfl) (hi : TyInf t b n := by exact inferInstance) (hx : (a.eval x).cells = cs.toArray := by exact rfl) (hn : cs.length = n := by first | exact rfl | exact S.len' (by (repeat (first | with_reducible exact List.mem_cons_self | with_reducible apply List.mem_cons_of_mem)) <;> fail) (by exact rfl) | assumption | exact (Go.RowKit.Hid.out (by assumption))) : if Region.wanted o (yielded ops a.tmps) = true then Oper.wp Try.prog o a W K Q else K (a.put o.dst undef) W := step_sbox S hw t x ho n cs hx hn h
theorem rgAl {t n : Nat} {b : Bool} {cs : List Value} (S : Sep F0 w0 L W) (h : ∀ g w1, W.heap.size ≤ g → Sep F0 w0 (aBox g t n cs :: L) w1 → K (a.put o.dst (.pointer (some ⟨g, 0, none⟩))) w1) (hw : Region.wanted o (yielded ops a.tmps) = true := by exact rfl) (ho : o.op = .alloc t := by exact rfl) (hi : TyInf t b n := by exact inferInstance) (hz : TyZero t cs := by exact inferInstance) (hn : cs.length = n := by exact rfl) : if Region.wanted o (yielded ops a.tmps) = true then Oper.wp Try.prog o a W K Q else K (a.put o.dst undef) W := by
  obtain ⟨z, h1, h2⟩ := hz.z W
  exact step_salloc S hw t ho z h1 n cs h2 hn h
theorem rgLd {t ty n g : Nat} {x : Operand} {cs : List Value} (S : Sep F0 w0 L W) (h : K (a.put o.dst (.agg cs.toArray)) W) (hw : Region.wanted o (yielded ops a.tmps) = true := by exact rfl) (ho : o.op = .load ty x := by exact rfl) (hi : TyInf ty true n := by exact inferInstance) (hx : a.eval x = .pointer (some ⟨g, 0, none⟩) := by exact rfl) (hm : aBox g t n cs ∈ L := by (repeat (first | with_reducible exact List.mem_cons_self | with_reducible apply List.mem_cons_of_mem)) <;> fail) : if Region.wanted o (yielded ops a.tmps) = true then Oper.wp Try.prog o a W K Q else K (a.put o.dst undef) W := by
  obtain ⟨d, h1, h2⟩ := hi.u
  exact step_sload S hw ty x ho hx hm d h1 (by cases d <;> exact h2) hi.s h
theorem rgPt {t ty n m g j : Nat} {x : Operand} {cs vs : List Value} (S : Sep F0 w0 L W) (h : K (a.put o.dst (.agg vs.toArray)) W) (hw : Region.wanted o (yielded ops a.tmps) = true := by exact rfl) (ho : o.op = .load ty x := by exact rfl) (hi : TyInf ty true m := by exact inferInstance) (hx : a.eval x = .pointer (some ⟨g, j, none⟩) := by exact rfl) (hm : aBox g t n cs ∈ L := by (repeat (first | with_reducible exact List.mem_cons_self | with_reducible apply List.mem_cons_of_mem)) <;> fail) (hj : j + m ≤ n := by decide) (hv : (cs.drop j).take m = vs := by (conv => lhs; simp only [List.drop_succ_cons, List.drop_zero, List.take_succ_cons, List.take_zero, List.set_cons_succ, List.set_cons_zero, List.cons_append, List.nil_append, List.append_nil, List.drop_nil, Nat.reduceAdd]); try exact rfl) : if Region.wanted o (yielded ops a.tmps) = true then Oper.wp Try.prog o a W K Q else K (a.put o.dst undef) W := by
  obtain ⟨d, h1, h2⟩ := hi.u
  exact step_spart S hw ty x ho hx hm d h1 (by cases d <;> exact h2) hi.s hj vs hv h
theorem rgL1 {t ty n m g j : Nat} {x : Operand} {cs : List Value} {v : Value} (S : Sep F0 w0 L W) (h : K (a.put o.dst v) W) (hw : Region.wanted o (yielded ops a.tmps) = true := by exact rfl) (ho : o.op = .load ty x := by exact rfl) (hi : TyInf ty false m := by exact inferInstance) (hx : a.eval x = .pointer (some ⟨g, j, none⟩) := by exact rfl) (hm : aBox g t n cs ∈ L := by (repeat (first | with_reducible exact List.mem_cons_self | with_reducible apply List.mem_cons_of_mem)) <;> fail) (hv : cs[j]? = some v := by (conv => lhs; simp only [List.getElem?_cons_succ, List.getElem?_cons_zero]); try exact rfl) : if Region.wanted o (yielded ops a.tmps) = true then Oper.wp Try.prog o a W K Q else K (a.put o.dst undef) W := by
  obtain ⟨d, h1, h2⟩ := hi.u
  exact step_sload1 S hw ty x ho hx hm d h1 (by cases d <;> exact h2) v hv h
theorem rgSt {t ty n g : Nat} {b : Bool} {x y : Operand} {ls cs : List Value} (S : Sep F0 w0 L W) (h : ∀ w1, Sep F0 w0 L' w1 → K (a.put o.dst undef) w1) (hw : Region.wanted o (yielded ops a.tmps) = true := by exact rfl) (ho : o.op = .store ty x y := by exact rfl) (hi : TyInf ty b n := by exact inferInstance) (hx : a.eval x = .pointer (some ⟨g, 0, none⟩) := by exact rfl) (hy : (a.eval y).cells = ls.toArray := by exact rfl) (hp : Put L (aBox g t n cs) (aBox g t n ls) L' := by (repeat (first | with_reducible exact Put.head _ _ _ | with_reducible apply Put.tail)) <;> fail) (hl : ls.length = n := by first | exact rfl | exact S.len' (by (repeat (first | with_reducible exact List.mem_cons_self | with_reducible apply List.mem_cons_of_mem)) <;> fail) (by exact rfl) | assumption | exact (Go.RowKit.Hid.out (by assumption))) (h1 : ∀ u ∈ ls, u.oneCell' = true := by first | assumption | exact S.one (by (repeat (first | with_reducible exact List.mem_cons_self | with_reducible apply List.mem_cons_of_mem)) <;> fail) | ((repeat (first | exact one_nil | refine one_cons (by first | exact rfl | exact S.rowOne (by (repeat (first | with_reducible exact List.mem_cons_self | with_reducible apply List.mem_cons_of_mem)) <;> fail) | assumption) ?_)) <;> fail)) : if Region.wanted o (yielded ops a.tmps) = true then Oper.wp Try.prog o a W K Q else K (a.put o.dst undef) W := step_sput S hw ty x y ho hx ls hy hp hi.s hl h1 h
theorem rgSp {t ty n m g j : Nat} {b : Bool} {x y : Operand} {ls cs cs' : List Value} (S : Sep F0 w0 L W) (h : ∀ w1, Sep F0 w0 L' w1 → K (a.put o.dst undef) w1) (hw : Region.wanted o (yielded ops a.tmps) = true := by exact rfl) (ho : o.op = .store ty x y := by exact rfl) (hi : TyInf ty b m := by exact inferInstance) (hx : a.eval x = .pointer (some ⟨g, j, none⟩) := by exact rfl) (hy : (a.eval y).cells = ls.toArray := by exact rfl) (hm : aBox g t n cs ∈ L := by (repeat (first | with_reducible exact List.mem_cons_self | with_reducible apply List.mem_cons_of_mem)) <;> fail) (hl : ls.length = m := by first | exact rfl | exact S.len' (by (repeat (first | with_reducible exact List.mem_cons_self | with_reducible apply List.mem_cons_of_mem)) <;> fail) (by exact rfl) | assumption | exact (Go.RowKit.Hid.out (by assumption))) (h1 : ∀ u ∈ ls, u.oneCell' = true := by first | assumption | exact S.one (by (repeat (first | with_reducible exact List.mem_cons_self | with_reducible apply List.mem_cons_of_mem)) <;> fail) | ((repeat (first | exact one_nil | refine one_cons (by first | exact rfl | exact S.rowOne (by (repeat (first | with_reducible exact List.mem_cons_self | with_reducible apply List.mem_cons_of_mem)) <;> fail) | assumption) ?_)) <;> fail)) (hj : j + m ≤ n := by decide) (hv : cs.take j ++ (ls ++ cs.drop (j + m)) = cs' := by (conv => lhs; simp only [List.drop_succ_cons, List.drop_zero, List.take_succ_cons, List.take_zero, List.set_cons_succ, List.set_cons_zero, List.cons_append, List.nil_append, List.append_nil, List.drop_nil, Nat.reduceAdd]); try exact rfl) (hp : Put L (aBox g t n cs) (aBox g t n cs') L' := by (repeat (first | with_reducible exact Put.head _ _ _ | with_reducible apply Put.tail)) <;> fail) : if Region.wanted o (yielded ops a.tmps) = true then Oper.wp Try.prog o a W K Q else K (a.put o.dst undef) W := step_sputp S hw ty x y ho hx ls hy hm hi.s hl h1 hj hv hp h
theorem rgS1 {t ty n g j : Nat} {b : Bool} {x y : Operand} {v : Value} {cs cs' : List Value} (S : Sep F0 w0 L W) (h : ∀ w1, Sep F0 w0 L' w1 → K (a.put o.dst undef) w1) (hw : Region.wanted o (yielded ops a.tmps) = true := by exact rfl) (ho : o.op = .store ty x y := by exact rfl) (hi : TyInf ty b 1 := by exact inferInstance) (hx : a.eval x = .pointer (some ⟨g, j, none⟩) := by exact rfl) (hy : a.eval y = v := by (conv => lhs; whnf); try exact rfl) (hm : aBox g t n cs ∈ L := by (repeat (first | with_reducible exact List.mem_cons_self | with_reducible apply List.mem_cons_of_mem)) <;> fail) (h1 : v.oneCell' = true := by first | exact rfl | exact S.rowOne (by (repeat (first | with_reducible exact List.mem_cons_self | with_reducible apply List.mem_cons_of_mem)) <;> fail) | assumption) (hj : j < n := by decide) (hv : cs.set j v = cs' := by (conv => lhs; simp only [List.drop_succ_cons, List.drop_zero, List.take_succ_cons, List.take_zero, List.set_cons_succ, List.set_cons_zero, List.cons_append, List.nil_append, List.append_nil, List.drop_nil, Nat.reduceAdd]); try exact rfl) (hp : Put L (aBox g t n cs) (aBox g t n cs') L' := by (repeat (first | with_reducible exact Put.head _ _ _ | with_reducible apply Put.tail)) <;> fail) : if Region.wanted o (yielded ops a.tmps) = true then Oper.wp Try.prog o a W K Q else K (a.put o.dst undef) W := step_sput1 S hw ty x y ho hx v (by rw [hy]; exact cells_of_one h1) hm h1 hi.s hj hv hp h
theorem yLd {t ty n g : Nat} {x : Operand} {cs : List Value} (hw : Region.wanted o (yielded ops a.tmps) = true := by exact rfl) (ho : o.op = .load ty x := by exact rfl) (hi : TyInf ty true n := by exact inferInstance) (hx : a.eval x = .pointer (some ⟨g, 0, none⟩) := by exact rfl) (hm : aBox g t n cs ∈ L := by (repeat (first | with_reducible exact List.mem_cons_self | with_reducible apply List.mem_cons_of_mem)) <;> fail) : YieldsIf Try.prog ops (Sep F0 w0 L) o (.agg cs.toArray) a := by
  obtain ⟨d, h1, h2⟩ := hi.u
  exact yields_sload hw ty x ho hx hm d h1 (by cases d <;> exact h2) hi.s
theorem yPt {t ty n m g j : Nat} {x : Operand} {cs vs : List Value} (hw : Region.wanted o (yielded ops a.tmps) = true := by exact rfl) (ho : o.op = .load ty x := by exact rfl) (hi : TyInf ty true m := by exact inferInstance) (hx : a.eval x = .pointer (some ⟨g, j, none⟩) := by exact rfl) (hm : aBox g t n cs ∈ L := by (repeat (first | with_reducible exact List.mem_cons_self | with_reducible apply List.mem_cons_of_mem)) <;> fail) (hj : j + m ≤ n := by decide) (hv : (cs.drop j).take m = vs := by (conv => lhs; simp only [List.drop_succ_cons, List.drop_zero, List.take_succ_cons, List.take_zero, List.set_cons_succ, List.set_cons_zero, List.cons_append, List.nil_append, List.append_nil, List.drop_nil, Nat.reduceAdd]); try exact rfl) : YieldsIf Try.prog ops (Sep F0 w0 L) o (.agg vs.toArray) a := by
  obtain ⟨d, h1, h2⟩ := hi.u
  exact yields_spart hw ty x ho hx hm d h1 (by cases d <;> exact h2) hi.s hj vs hv
theorem yL1 {t ty n m g j : Nat} {x : Operand} {cs : List Value} {v : Value} (hw : Region.wanted o (yielded ops a.tmps) = true := by exact rfl) (ho : o.op = .load ty x := by exact rfl) (hi : TyInf ty false m := by exact inferInstance) (hx : a.eval x = .pointer (some ⟨g, j, none⟩) := by exact rfl) (hm : aBox g t n cs ∈ L := by (repeat (first | with_reducible exact List.mem_cons_self | with_reducible apply List.mem_cons_of_mem)) <;> fail) (hv : cs[j]? = some v := by (conv => lhs; simp only [List.getElem?_cons_succ, List.getElem?_cons_zero]); try exact rfl) : YieldsIf Try.prog ops (Sep F0 w0 L) o v a := by
  obtain ⟨d, h1, h2⟩ := hi.u
  exact yields_sload1 hw ty x ho hx hm d h1 (by cases d <;> exact h2) v hv
end
section
variable {ops : Array Oper} {Q : Exit → Act → World → Prop} {md : Region.Mode} {S : World → Prop} {oi : Oper} {v : Value} {fuel : Nat} {listed : Array Bool} {a : Act} {w : World}
/-- Number i is taken first. -/
theorem tk (i : Nat) (h : wpAnyH Try.prog md ops Q S fuel (listed.setIfInBounds i true) (a.put oi.dst v) w) (hi : ops[i]? = some oi := by (conv => lhs; simp only [List.getElem?_toArray, List.getElem?_cons_zero, List.getElem?_cons_succ]); try exact rfl) (hs : Region.noSelect ops = true := by kernel_rfl) (hf : Region.free md ops listed i = true := by kernel_rfl) (hr : (Region.ready md ops listed).contains i = true := by kernel_rfl)
    (hQ : ∀ c a w, Q (.panic c) (a.put oi.dst v) w → Q (.panic c) a w := by exact fun _ _ _ h => h) (hy : YieldsIf Try.prog ops S oi v a := by first | exact yLd | exact yPt | exact yL1 | exact Or.inl ⟨by rfl, by intro w9 _; first | (go_simp; done) | (go_simp; with_reducible rfl)⟩ | (refine Or.inr ⟨by rfl, ?_⟩; rfl)) (hS : S w := by assumption) : wpAnyH Try.prog md ops Q S (fuel + 1) listed a w := wpAnyH_take hi hs hf hr hQ hy hS h
end
section
variable {ops : Array Oper} {Q : Exit → Act → World → Prop} {md : Region.Mode} {S : World → Prop} {o : Oper} {rs : List Nat} {fuel : Nat} {listed : Array Bool} {a : Act} {w : World}
/-- What comes up next. -/
theorem rdc (i : Nat) (h : ∀ K' : Act → World → Prop, Shut (∀ a w, S w → (S w → wpAnyH Try.prog md ops Q S fuel (listed.setIfInBounds i true) a w) → K' a w) → if Region.wanted o (yielded ops a.tmps) = true then Oper.wp Try.prog o a w K' Q else K' (a.put o.dst undef) w) (hs : AllReadyH Try.prog md ops Q S fuel listed a w rs) (ho : ops[i]? = some o := by (conv => lhs; simp only [List.getElem?_toArray, List.getElem?_cons_zero, List.getElem?_cons_succ]); try exact rfl) : AllReadyH Try.prog md ops Q S fuel listed a w (i :: rs) := AllReadyH.cons ho h hs
theorem rdy1 (i : Nat) (h : ∀ K' : Act → World → Prop, Shut (∀ a w, S w → (S w → wpAnyH Try.prog md ops Q S fuel (listed.setIfInBounds i true) a w) → K' a w) → if Region.wanted o (yielded ops a.tmps) = true then Oper.wp Try.prog o a w K' Q else K' (a.put o.dst undef) w) (ho : ops[i]? = some o := by (conv => lhs; simp only [List.getElem?_toArray, List.getElem?_cons_zero, List.getElem?_cons_succ]); try exact rfl) (hr : Region.ready md ops listed = [i] := by kernel_rfl) : wpAnyH Try.prog md ops Q S (fuel + 1) listed a w := wpAnyH_ready hr (by simp) (AllReadyH.cons ho h AllReadyH.nil)
theorem rdys (rs : List Nat) (h : AllReadyH Try.prog md ops Q S fuel listed a w rs) (hr : Region.ready md ops listed = rs := by kernel_rfl) (hne : rs ≠ [] := by simp) : wpAnyH Try.prog md ops Q S (fuel + 1) listed a w := wpAnyH_ready hr hne h
end
end Go.Proofs.Ytapdcgjccckjeaa
namespace Go.Proofs.Ytapdcgjccckjeaa
set_option maxRecDepth 100000
set_option linter.unusedVariables false
set_option linter.unusedSimpArgs false
open Go.RowKit

/-- The marks that a slice of ints is given. -/
def marksI (q : Int) (n : Nat) : List Int := (List.range n).map fun i : Nat => q + (i : Int)
theorem marksI_len (q : Int) (n : Nat) : (marksI q n).length = n := by simp [marksI]
theorem marksI_get (q : Int) (n k : Nat) (h : k < n) : (marksI q n)[k]'(by rw [marksI_len]; exact h) = q + k := by
  simp [marksI]
theorem marksI_succ (q : Int) (xs : List Int) (k : Nat) (h : k < xs.length) : (marksI q k ++ xs.drop k).set k (q + k) = marksI q (k + 1) ++ xs.drop (k + 1) := by
  rw [List.set_append_right _ _ (by rw [marksI_len]; omega), marksI_len, Nat.sub_self, List.drop_eq_getElem_cons h, List.set_cons_zero]
  simp [marksI, List.range_succ]
theorem take_set_rep {α : Type} (xs : List α) (z : α) (k : Nat) (h : k < xs.length) : (xs.take k ++ List.replicate (xs.length - k) z).set k xs[k] = xs.take (k + 1) ++ List.replicate (xs.length - (k + 1)) z := by
  rw [List.set_append_right _ _ (by simp; omega), List.length_take, Nat.min_eq_left (Nat.le_of_lt h), Nat.sub_self, show xs.length - k = (xs.length - (k + 1)) + 1 from by omega, List.replicate_succ, List.set_cons_zero, List.take_succ_eq_append_getElem h, List.append_assoc, List.singleton_append]
theorem info3 : (Try.prog.info? 3).map (fun i => (i.zero, i.size, i.bytes)) = some (some (.int .i64 0), 1, 8) := by kernel_rfl

set_option maxHeartbeats 400000 in
theorem eqIntS_c (w : World) (v u : Value) (xs : List Int) (h1 : tInt.row w v xs) (h2 : tInt.row w u xs) :
    Calls Try.prog 72 #[v, u] w (Ret (.bool true) w) := by
  obtain ⟨A1, c1, rfl⟩ := h1.val
  obtain ⟨A2, c2, rfl⟩ := h2.val
  have hm := h1.le
  go_enter Try.func72, Try.ntmps72
  go_wp2
  go_loopw [5] (fun i wr => ∃ k n : Nat, k ≤ xs.length ∧ i = .int .i64 k ∧ wr = w.drewN n) (fun i _ => xs.length - (intOf i).toNat)
  case atStart => exact ⟨0, 0, Nat.zero_le _, rfl, rfl⟩
  case round =>
    obtain ⟨k, n, hk, rfl, rfl⟩ := hrel
    by_cases hlt : k < xs.length
    · obtain ⟨ad1, rfl, g1⟩ := row_int_at h1 k hlt
      obtain ⟨ad2, rfl, g2⟩ := row_int_at h2 k hlt
      have p0 : (0 : Int) ≤ (k : Int) := Int.natCast_nonneg _
      have p1 : (k : Int) < (xs.length : Int) := by omega
      go_wp2
      go_quiet (fail)
      go_wp2
      go_roundw
      case rel => exact ⟨k + 1, _, by omega, by go_num, rfl⟩
      case measure => simp [intOf]; omega
    · go_wp2
      go_ret
      exact ⟨rfl, (Fr.refl w).drewN n⟩

set_option maxHeartbeats 400000 in
theorem heldIntS_c (w : World) (v : Value) (n : Nat) (q : Int) (h1 : tInt.row w v (marksI q n)) (hn : n ≤ 2097152) (hq0 : 0 ≤ q) (hq1 : q ≤ 1000000000000000000) :
    Calls Try.prog 78 #[v, .int .i64 q] w (Ret (.int .i64 (q + n)) w) := by
  obtain ⟨A1, c1, rfl⟩ := h1.val
  have hl := marksI_len q n
  rw [hl] at h1 ⊢
  have Hl := Lib.hid hl
  clear hl
  go_enter Try.func78, Try.ntmps78
  go_wp2
  go_loop [1, 5] (fun q' i => ∃ k : Nat, k ≤ n ∧ i = .int .i64 k ∧ q' = .int .i64 (q + k)) (fun _ i => n - (intOf i).toNat)
  case atStart => exact ⟨0, Nat.zero_le _, rfl, by simp⟩
  case round =>
    obtain ⟨k, hk, rfl, rfl⟩ := hrel
    by_cases hlt : k < n
    · obtain ⟨ad1, rfl, g1⟩ := row_int_at h1 k (by rw [Hl.out]; exact hlt)
      rw [marksI_get q n k hlt] at g1
      go_wp2
      go_round
      case rel => exact ⟨k + 1, by omega, by go_num, by go_num⟩
      case measure => simp [intOf]; omega
    · obtain rfl : k = n := by omega
      go_wp2
      go_ret
      exact ⟨rfl, Fr.refl w⟩

set_option maxHeartbeats 400000 in
theorem markIntS_c (w : World) (v : Value) (xs : List Int) (F : List Nat) (q : Int) (h1 : tInt.orow 3 w v xs F) (hq0 : 0 ≤ q) (hq1 : q ≤ 1000000000000000000) :
    Calls Try.prog 75 #[v, .int .i64 q] w (RetMkRow tInt 3 (q + xs.length) (marksI q xs.length) v F w) := by
  obtain ⟨A1, c1, rfl⟩ := h1.row.val
  have hm := h1.le
  go_enter Try.func75, Try.ntmps75
  go_wp2
  go_loopw [1, 5] (fun q' i wr => ∃ k : Nat, k ≤ xs.length ∧ i = .int .i64 k ∧ q' = .int .i64 (q + k) ∧ tInt.orow 3 wr (.slice A1 xs.length c1) (marksI q k ++ xs.drop k) F ∧ Chg F w wr) (fun _ i _ => xs.length - (intOf i).toNat)
  case atStart => exact ⟨0, Nat.zero_le _, rfl, by simp, by simpa [marksI] using h1, Chg.refl _ _⟩
  case round =>
    obtain ⟨k, hk, rfl, rfl, hr, hc⟩ := hrel
    have hl : (marksI q k ++ xs.drop k).length = xs.length := by simp [marksI_len]; omega
    by_cases hlt : k < xs.length
    · obtain ⟨g, y, rfl, h4, g1, g2, hs⟩ := orow_int_at hr (k := k) (by omega)
      have hs2 := hs (q + k)
      rw [marksI_succ q xs k hlt] at hs2
      clear hs hr hl
      go_wp2
      go_roundw
      case rel => exact ⟨k + 1, by omega, by go_num, by go_num, hs2, hc.set (.inl h4) _⟩
      case measure => simp [intOf]; omega
    · obtain rfl : k = xs.length := by omega
      go_wp2
      go_ret
      exact ⟨rfl, by simpa using hr, hc⟩

theorem szIntS_c (w : World) (v : Value) (xs : List Int) (left : Int) (h1 : tInt.row w v xs) (hl0 : 0 ≤ left) (hl1 : left ≤ 1048576) :
    Calls Try.prog 86 #[v, .int .i64 left] w (Ret (.int .i64 (szr left xs.length)) w) := by
  obtain ⟨A1, c1, rfl⟩ := h1.val
  have hm := h1.le
  unfold szr
  by_cases h : (xs.length : Int) ≤ left
  all_goals
    simp only [h, if_true, if_false]
    go_enter Try.func86, Try.ntmps86
    go_wp2
    go_ret
    exact ⟨rfl, Fr.refl w⟩


set_option maxHeartbeats 400000 in
theorem toIntS_c (w : World) (v : Value) (xs : List Int) (h1 : tInt.row w v xs) (hm : xs.length ≤ 1048576) :
    Calls Try.prog 91 #[v] w (RetRow tInt 3 xs w) := by
  obtain ⟨A1, c1, rfl⟩ := h1.val
  have hmk := fun W => run_make_row' (P := Try.prog) 24 3 (.int .i64 0) 8 Try.underlying24 info3 rfl .i64 .i64 xs.length (by omega) (by omega) W
  have hmade := orow_made tInt 3 w 0 [.int .i64 0] xs.length (fun _ => ⟨rfl, rfl⟩) (by omega)
  rw [show xs.length * tInt.sz = xs.length from Nat.mul_one _] at hmade
  go_enter Try.func91, Try.ntmps91
  go_wp2
  go_loopw [4] (fun i wr => ∃ k : Nat, k ≤ xs.length ∧ i = .int .i64 k ∧ tInt.orow 3 wr (.slice (some ⟨w.heap.size, 0, none⟩) xs.length xs.length) (xs.take k ++ List.replicate (xs.length - k) 0) [w.heap.size] ∧ Fr w wr) (fun i _ => xs.length - (intOf i).toNat)
  case atStart => exact ⟨0, Nat.zero_le _, rfl, by simpa using hmade, (Fr.refl w).alloc _⟩
  case round =>
    clear hmade hmk
    obtain ⟨k, hk, rfl, hr, hc⟩ := hrel
    have hl : (xs.take k ++ List.replicate (xs.length - k) 0).length = xs.length := by simp; omega
    by_cases hlt : k < xs.length
    · obtain ⟨g, y, e, h4, g1, g2, hs⟩ := orow_int_at hr (k := k) (by omega)
      cases e
      obtain ⟨ad1, rfl, g3⟩ := row_int_at (h1.fr hc) k hlt
      have hs2 := hs xs[k]
      rw [take_set_rep xs 0 k hlt] at hs2
      clear hs hr hl h4
      go_wp2
      go_roundw
      case rel => exact ⟨k + 1, by omega, by go_num, hs2, hc.set (Nat.le_refl _) _⟩
      case measure => simp [intOf]; omega
    · obtain rfl : k = xs.length := by omega
      go_wp2
      go_ret
      exact ⟨_, _, rfl, by simpa using hr, by simp, by simp, hc⟩
end Go.Proofs.Ytapdcgjccckjeaa
namespace Go.Proofs.Ytapdcgjccckjeaa
set_option maxRecDepth 100000
set_option linter.unusedVariables false
set_option linter.unusedSimpArgs false
open Go.RowKit
theorem l6In_c (w : World) (n lo hi : Int) : Calls Try.prog 61 #[.int .i64 n, .int .i64 lo, .int .i64 hi] w fun e w' => e = .returned (.bool (decide (lo ≤ n ∧ n ≤ hi))) ∧ w = w' := by
  by_cases h1 : lo ≤ n
  all_goals
    by_cases h2 : n ≤ hi
    all_goals
      go_enter Try.func61, Try.ntmps61
      go_wp2
      go_ret
      exact ⟨by simp [h1, h2], rfl⟩
theorem l1User_c (w : World) (n : Int) : Calls Try.prog 140 #[.int .i64 n] w fun e w' => e = .returned (.bool (decide (1 ≤ n ∧ n ≤ 3))) ∧ w = w' := by
  go_enter Try.func140, Try.ntmps140
  go_wp2_with (go_at_call 61; (with_reducible refine (l6In_c _ _ _ _).mono ?_); rintro e w9 ⟨rfl, rfl⟩)
  go_ret
  exact ⟨ret_bool (by by_cases h1 : 1 ≤ n <;> by_cases h2 : n ≤ 3 <;> simp [h1, h2]), rfl⟩
theorem userOk_c (w : World) (n : Int) : Calls Try.prog 143 #[.int .i64 n] w fun e w' => e = .returned (.bool (decide (1 ≤ n ∧ n ≤ 3))) ∧ w = w' := by
  by_cases h1 : 1 ≤ n
  all_goals
    by_cases h2 : n ≤ 3
    all_goals
      go_enter Try.func143, Try.ntmps143
      go_wp2
      go_ret
      exact ⟨by simp [h1, h2], rfl⟩
end Go.Proofs.Ytapdcgjccckjeaa
namespace Go.Proofs.Ytapdcgjccckjeaa
set_option maxRecDepth 100000
set_option linter.unusedVariables false
set_option linter.unusedSimpArgs false
open Go.RowKit

structure Pk where
  seq : Int
  kind : Int
  frm : Int
  dst : Int
  sum : Int
  til : Int
  ver : Int
def Pk.ok64 (p : Pk) : Prop := (-9223372036854775808 ≤ p.seq ∧ p.seq ≤ 9223372036854775807) ∧ (-9223372036854775808 ≤ p.kind ∧ p.kind ≤ 9223372036854775807) ∧ (-9223372036854775808 ≤ p.frm ∧ p.frm ≤ 9223372036854775807) ∧ (-9223372036854775808 ≤ p.dst ∧ p.dst ≤ 9223372036854775807) ∧ (-9223372036854775808 ≤ p.sum ∧ p.sum ≤ 9223372036854775807) ∧ (-9223372036854775808 ≤ p.til ∧ p.til ≤ 9223372036854775807) ∧ (-9223372036854775808 ≤ p.ver ∧ p.ver ≤ 9223372036854775807)
def Pk.cells (p : Pk) : List Value := [.int .i64 p.seq, .int .i64 p.kind, .int .i64 p.frm, .int .i64 p.dst, .int .i64 p.sum, .int .i64 p.til, .int .i64 p.ver]
def tPk : Ty Pk where
  sz := 7
  rd := fun _ p cs => cs = p.cells ∧ p.ok64
  own := fun _ p cs F => (cs = p.cells ∧ p.ok64) ∧ F = []
  len := fun h => by rw [h.1]; rfl
  fr := fun _ h => h
  own_rd := fun h => h.1
  own_lt := fun h g hg => by rw [h.2] at hg; cases hg
  keep := fun h _ => h
  one := by
    intro w x cs F h u hu
    rw [h.1.1] at hu
    simp only [Pk.cells, List.mem_cons, List.not_mem_nil, or_false] at hu
    rcases hu with rfl | rfl | rfl | rfl | rfl | rfl | rfl <;> rfl
theorem tPk_flat : tPk.flat := fun h => h.2
theorem tPk_cells {w : World} {p : Pk} {cs : List Value} (h : tPk.rd w p cs) : cs = p.cells := h.1
theorem tPk_mk {w : World} {p : Pk} (h : p.ok64) : tPk.rd w p p.cells := ⟨rfl, h⟩
/-- A packet is within its bounds. -/
def okPk (p : Pk) : Bool := decide (1 ≤ p.seq ∧ p.seq ≤ 8) && decide (1 ≤ p.kind ∧ p.kind ≤ 2) && decide (1 ≤ p.frm ∧ p.frm ≤ 3) && decide (0 ≤ p.dst ∧ p.dst ≤ 3) && decide (1 ≤ p.sum ∧ p.sum ≤ 9) && decide (1 ≤ p.til ∧ p.til ≤ 90) && decide (1 ≤ p.ver ∧ p.ver ≤ 9)

theorem psize88 : (Try.prog.info? 88).map (·.size) = some 7 := by kernel_rfl
theorem psize3 : (Try.prog.info? 3).map (·.size) = some 1 := by kernel_rfl
theorem pzero88 (w : World) : (zeroValue 88).run Try.prog w = .ok (.agg #[.int .i64 0, .int .i64 0, .int .i64 0, .int .i64 0, .int .i64 0, .int .i64 0, .int .i64 0]) w := by kernel_rfl

end Go.Proofs.Ytapdcgjccckjeaa
namespace Go.Proofs.Ytapdcgjccckjeaa
set_option maxRecDepth 100000
set_option linter.unusedVariables false
set_option linter.unusedSimpArgs false
open Go.RowKit
set_option maxHeartbeats 1600000 in
theorem toPacket_c (w : World) (p : Pk) (hp : p.ok64) : Calls Try.prog 57 #[.agg p.cells.toArray] w (Ret (.agg p.cells.toArray) w) := by
  have f := Fr.refl w
  go_enter Try.func57, Try.ntmps57
  go_wp2_with (first
    | ((with_reducible refine gate_dst (N := 1) rfl ?_); refine wpList_box rfl _ _ rfl #[.int .i64 p.seq, .int .i64 p.kind, .int .i64 p.frm, .int .i64 p.dst, .int .i64 p.sum, .int .i64 p.til, .int .i64 p.ver] rfl ?_; intro g_k1 w9 hg_k1 k1 f9; have zf_k1 := f.size; have hl_k1 := k1.lt; have z9 := f9.size; replace f := f.trans f9; (try (replace k2 := k2.fr f9; (try clear r_k2); have r_k2 := k2.cells)); (try (replace k3 := k3.fr f9; (try clear r_k3); have r_k3 := k3.cells)); (try clear r_k1); have r_k1 := k1.cells)
    | ((with_reducible refine gate_dst (N := 2) rfl ?_); refine wpList_alloc rfl _ rfl _ (pzero88 _) #[.int .i64 0, .int .i64 0, .int .i64 0, .int .i64 0, .int .i64 0, .int .i64 0, .int .i64 0] rfl ?_; intro g_k2 w9 hg_k2 k2 f9; have zf_k2 := f.size; have hl_k2 := k2.lt; have z9 := f9.size; replace f := f.trans f9; (try (replace k1 := k1.fr f9; (try clear r_k1); have r_k1 := k1.cells)); (try (replace k3 := k3.fr f9; (try clear r_k3); have r_k3 := k3.cells)); (try clear r_k2); have r_k2 := k2.cells)
    | ((with_reducible refine gate_dst (N := 3) rfl ?_); refine wpList_alloc rfl _ rfl _ (pzero88 _) #[.int .i64 0, .int .i64 0, .int .i64 0, .int .i64 0, .int .i64 0, .int .i64 0, .int .i64 0] rfl ?_; intro g_k3 w9 hg_k3 k3 f9; have zf_k3 := f.size; have hl_k3 := k3.lt; have z9 := f9.size; replace f := f.trans f9; (try (replace k1 := k1.fr f9; (try clear r_k1); have r_k1 := k1.cells)); (try (replace k2 := k2.fr f9; (try clear r_k2); have r_k2 := k2.cells)); (try clear r_k3); have r_k3 := k3.cells)
    | ((with_reducible refine gate_store (p := 6) rfl ?_); refine wpList_bstore1 k3 rfl _ _ _ rfl 0 rfl (.int .i64 p.seq) rfl (rfl) psize3 (by simp) #[.int .i64 p.seq, .int .i64 0, .int .i64 0, .int .i64 0, .int .i64 0, .int .i64 0, .int .i64 0] rfl ?_; intro w9 k9 c9; have z9 := c9.size; replace f := f.own c9 (fun q hq => by have := List.mem_singleton.1 hq; have := f.size; omega); (try (replace k1 := k1.chg c9 (fun hm => by have := List.mem_singleton.1 hm; omega); (try clear r_k1); have r_k1 := k1.cells)); (try (replace k2 := k2.chg c9 (fun hm => by have := List.mem_singleton.1 hm; omega); (try clear r_k2); have r_k2 := k2.cells)); replace k3 := k9; clear k9; (try clear r_k3); have r_k3 := k3.cells)
    | ((with_reducible refine gate_store (p := 9) rfl ?_); refine wpList_bstore1 k3 rfl _ _ _ rfl 1 rfl (.int .i64 p.kind) rfl (rfl) psize3 (by simp) #[.int .i64 p.seq, .int .i64 p.kind, .int .i64 0, .int .i64 0, .int .i64 0, .int .i64 0, .int .i64 0] rfl ?_; intro w9 k9 c9; have z9 := c9.size; replace f := f.own c9 (fun q hq => by have := List.mem_singleton.1 hq; have := f.size; omega); (try (replace k1 := k1.chg c9 (fun hm => by have := List.mem_singleton.1 hm; omega); (try clear r_k1); have r_k1 := k1.cells)); (try (replace k2 := k2.chg c9 (fun hm => by have := List.mem_singleton.1 hm; omega); (try clear r_k2); have r_k2 := k2.cells)); replace k3 := k9; clear k9; (try clear r_k3); have r_k3 := k3.cells)
    | ((with_reducible refine gate_store (p := 12) rfl ?_); refine wpList_bstore1 k3 rfl _ _ _ rfl 2 rfl (.int .i64 p.frm) rfl (rfl) psize3 (by simp) #[.int .i64 p.seq, .int .i64 p.kind, .int .i64 p.frm, .int .i64 0, .int .i64 0, .int .i64 0, .int .i64 0] rfl ?_; intro w9 k9 c9; have z9 := c9.size; replace f := f.own c9 (fun q hq => by have := List.mem_singleton.1 hq; have := f.size; omega); (try (replace k1 := k1.chg c9 (fun hm => by have := List.mem_singleton.1 hm; omega); (try clear r_k1); have r_k1 := k1.cells)); (try (replace k2 := k2.chg c9 (fun hm => by have := List.mem_singleton.1 hm; omega); (try clear r_k2); have r_k2 := k2.cells)); replace k3 := k9; clear k9; (try clear r_k3); have r_k3 := k3.cells)
    | ((with_reducible refine gate_store (p := 15) rfl ?_); refine wpList_bstore1 k3 rfl _ _ _ rfl 3 rfl (.int .i64 p.dst) rfl (rfl) psize3 (by simp) #[.int .i64 p.seq, .int .i64 p.kind, .int .i64 p.frm, .int .i64 p.dst, .int .i64 0, .int .i64 0, .int .i64 0] rfl ?_; intro w9 k9 c9; have z9 := c9.size; replace f := f.own c9 (fun q hq => by have := List.mem_singleton.1 hq; have := f.size; omega); (try (replace k1 := k1.chg c9 (fun hm => by have := List.mem_singleton.1 hm; omega); (try clear r_k1); have r_k1 := k1.cells)); (try (replace k2 := k2.chg c9 (fun hm => by have := List.mem_singleton.1 hm; omega); (try clear r_k2); have r_k2 := k2.cells)); replace k3 := k9; clear k9; (try clear r_k3); have r_k3 := k3.cells)
    | ((with_reducible refine gate_store (p := 18) rfl ?_); refine wpList_bstore1 k3 rfl _ _ _ rfl 4 rfl (.int .i64 p.sum) rfl (rfl) psize3 (by simp) #[.int .i64 p.seq, .int .i64 p.kind, .int .i64 p.frm, .int .i64 p.dst, .int .i64 p.sum, .int .i64 0, .int .i64 0] rfl ?_; intro w9 k9 c9; have z9 := c9.size; replace f := f.own c9 (fun q hq => by have := List.mem_singleton.1 hq; have := f.size; omega); (try (replace k1 := k1.chg c9 (fun hm => by have := List.mem_singleton.1 hm; omega); (try clear r_k1); have r_k1 := k1.cells)); (try (replace k2 := k2.chg c9 (fun hm => by have := List.mem_singleton.1 hm; omega); (try clear r_k2); have r_k2 := k2.cells)); replace k3 := k9; clear k9; (try clear r_k3); have r_k3 := k3.cells)
    | ((with_reducible refine gate_store (p := 21) rfl ?_); refine wpList_bstore1 k3 rfl _ _ _ rfl 5 rfl (.int .i64 p.til) rfl (rfl) psize3 (by simp) #[.int .i64 p.seq, .int .i64 p.kind, .int .i64 p.frm, .int .i64 p.dst, .int .i64 p.sum, .int .i64 p.til, .int .i64 0] rfl ?_; intro w9 k9 c9; have z9 := c9.size; replace f := f.own c9 (fun q hq => by have := List.mem_singleton.1 hq; have := f.size; omega); (try (replace k1 := k1.chg c9 (fun hm => by have := List.mem_singleton.1 hm; omega); (try clear r_k1); have r_k1 := k1.cells)); (try (replace k2 := k2.chg c9 (fun hm => by have := List.mem_singleton.1 hm; omega); (try clear r_k2); have r_k2 := k2.cells)); replace k3 := k9; clear k9; (try clear r_k3); have r_k3 := k3.cells)
    | ((with_reducible refine gate_store (p := 24) rfl ?_); refine wpList_bstore1 k3 rfl _ _ _ rfl 6 rfl (.int .i64 p.ver) rfl (rfl) psize3 (by simp) #[.int .i64 p.seq, .int .i64 p.kind, .int .i64 p.frm, .int .i64 p.dst, .int .i64 p.sum, .int .i64 p.til, .int .i64 p.ver] rfl ?_; intro w9 k9 c9; have z9 := c9.size; replace f := f.own c9 (fun q hq => by have := List.mem_singleton.1 hq; have := f.size; omega); (try (replace k1 := k1.chg c9 (fun hm => by have := List.mem_singleton.1 hm; omega); (try clear r_k1); have r_k1 := k1.cells)); (try (replace k2 := k2.chg c9 (fun hm => by have := List.mem_singleton.1 hm; omega); (try clear r_k2); have r_k2 := k2.cells)); replace k3 := k9; clear k9; (try clear r_k3); have r_k3 := k3.cells)
    | ((with_reducible refine gate_dst (N := 25) rfl ?_); refine wpList_bget k3 rfl _ _ rfl rfl _ Try.underlying88 rfl psize88 rfl ?_)
    | ((with_reducible refine gate_store (p := 2) rfl ?_); refine wpList_bput k2 rfl _ _ _ rfl rfl p.cells rfl psize88 rfl rfl (tPk.one (F := []) (w := w) (x := p) ⟨⟨rfl, hp⟩, rfl⟩) ?_; intro w9 k9 c9; have z9 := c9.size; replace f := f.own c9 (fun q hq => by have := List.mem_singleton.1 hq; have := f.size; omega); (try (replace k1 := k1.chg c9 (fun hm => by have := List.mem_singleton.1 hm; omega); (try clear r_k1); have r_k1 := k1.cells)); (try (replace k3 := k3.chg c9 (fun hm => by have := List.mem_singleton.1 hm; omega); (try clear r_k3); have r_k3 := k3.cells)); replace k2 := k9; clear k9))
  exact bodyPost_ret (v := .agg p.cells.toArray) (results_cell_row rfl _ _ g_k2 _ _ _ _ rfl k2.blk Try.underlying88 rfl psize88) rfl ⟨rfl, f⟩
end Go.Proofs.Ytapdcgjccckjeaa
namespace Go.Proofs.Ytapdcgjccckjeaa
set_option maxRecDepth 100000
set_option linter.unusedVariables false
set_option linter.unusedSimpArgs false
open Go.RowKit
set_option maxHeartbeats 800000 in
theorem eqPacket_c (w : World) (p : Pk) : Calls Try.prog 128 #[.agg p.cells.toArray, .agg p.cells.toArray] w (Ret (.bool true) w) := by
  have f := Fr.refl w
  go_enter Try.func128, Try.ntmps128
  go_wp2_with (first
    | ((with_reducible refine gate_dst (N := 2) rfl ?_); refine wpList_box rfl _ _ rfl #[.int .i64 p.seq, .int .i64 p.kind, .int .i64 p.frm, .int .i64 p.dst, .int .i64 p.sum, .int .i64 p.til, .int .i64 p.ver] rfl ?_; intro g_k2 w9 hg_k2 k2 f9; have zf_k2 := f.size; have hl_k2 := k2.lt; have z9 := f9.size; replace f := f.trans f9; (try (replace k3 := k3.fr f9; (try clear r_k3); have r_k3 := k3.cells)); (try clear r_k2); have r_k2 := k2.cells)
    | ((with_reducible refine gate_dst (N := 3) rfl ?_); refine wpList_box rfl _ _ rfl #[.int .i64 p.seq, .int .i64 p.kind, .int .i64 p.frm, .int .i64 p.dst, .int .i64 p.sum, .int .i64 p.til, .int .i64 p.ver] rfl ?_; intro g_k3 w9 hg_k3 k3 f9; have zf_k3 := f.size; have hl_k3 := k3.lt; have z9 := f9.size; replace f := f.trans f9; (try (replace k2 := k2.fr f9; (try clear r_k2); have r_k2 := k2.cells)); (try clear r_k3); have r_k3 := k3.cells))
  go_ret
  exact ⟨rfl, f⟩
/-- A packet of a slice: its cells. -/
theorem row_pk_at {w : World} {A : Option Addr} {n c : Nat} {xs : List Pk} (h : tPk.row w (.slice A n c) xs) (k : Nat) (hk : k < xs.length) : ∃ ad, A = some ad ∧ xs[k].ok64 ∧ ∀ j, j < 7 → w.cell? ((ad.add (k * 7)).add j) = xs[k].cells[j]? := by
  obtain ⟨A', c', e, h1, h2, h3⟩ := h
  obtain ⟨ad, cs, e1, hr, hc⟩ := h3 k hk
  cases e
  subst e1
  obtain ⟨h5, h6⟩ : cs = xs[k].cells ∧ xs[k].ok64 := hr
  subst h5
  refine ⟨ad, rfl, h6, fun j hj => ?_⟩
  have := hc j (by simpa [Pk.cells] using hj)
  rw [List.getElem?_eq_getElem (by simpa [Pk.cells] using hj), Go.Deep.add_add]
  exact this
/-- A struct loaded out of a row, cell by cell. -/
theorem run_loadVar_cells {P : Program} (w : World) (ad : Addr) (n : Nat) (ty : TypeId) (cs : List Value) (d : TypeDesc) (hl : cs.length = n) (hc : ∀ j, j < n → w.cell? (ad.add j) = cs[j]?)
    (hu : P.underlying ty = some d) (hd : (match d with | .struct _ | .array _ _ => true | _ => false) = true) (hi : (P.info? ty).map (·.size) = some n) :
    (loadVar ty ad).run P w = .ok (.agg cs.toArray) w := by
  have h2 : (loadCells ad cs.length).run P w = .ok cs.toArray w :=
    run_loadCells_list (P := P) w ad _ (fun i v hv => by
      have hi' : i < n := by have := (List.getElem?_eq_some_iff.1 hv).1; omega
      rw [hc i hi', hv])
  rw [hl] at h2
  cases hq : P.info? ty with
  | none => simp [hq] at hi
  | some i =>
    have hs : i.size = n := by simpa [hq] using hi
    have hagg : (isAgg ty).run P w = .ok true w := by
      unfold isAgg
      rw [Sem.run_bind, run_underlying hu w]
      cases d <;> simp_all
    simp [loadVar, Sem.run_bind, hagg, sizeOf, typeInfo, hq, hs, h2]
theorem wpStill_rowload {P : Program} {ops : Array Oper} {w : World} {Q : Act → Prop} {a : Act} {o : Oper} {rest : List Oper} (hg : o.guard = none) (ty : TypeId) (x : Operand) (ho : o.op = .load ty x) (ad : Addr) (hx : a.eval x = .pointer (some ad)) (n : Nat) (cs : List Value) (d : TypeDesc) (hl : cs.length = n) (hc : ∀ j, j < n → w.cell? (ad.add j) = cs[j]?)
    (hu : P.underlying ty = some d) (hd : (match d with | .struct _ | .array _ _ => true | _ => false) = true) (hi : (P.info? ty).map (·.size) = some n) (h : wpStill P ops w Q rest (a.put o.dst (.agg cs.toArray))) : wpStill P ops w Q (o :: rest) a :=
  wpStill_step fun K hK => by
    simp only [Region.wanted, hg, if_true]
    unfold Oper.still execOp
    simp only [ho, hx, Instr.loadAt, Instr.sureAddr, Sem.run_bind, Sem.run_pure, Result.andThen_ok, run_loadVar_cells w ad n ty cs d hl hc hu hd hi, Oper.stillUpon]
    exact ⟨trivial, hK _ h⟩
theorem szPacketS_c (w : World) (v : Value) (xs : List Pk) (left : Int) (h1 : tPk.row w v xs) (hl0 : 0 ≤ left) (hl1 : left ≤ 1048576) :
    Calls Try.prog 108 #[v, .int .i64 left] w (Ret (.int .i64 (szr left xs.length)) w) := by
  obtain ⟨A1, c1, rfl⟩ := h1.val
  have hm := h1.le
  unfold szr
  by_cases h : (xs.length : Int) ≤ left
  all_goals
    simp only [h, if_true, if_false]
    go_enter Try.func108, Try.ntmps108
    go_wp2
    go_ret
    exact ⟨rfl, Fr.refl w⟩
set_option maxRecDepth 100000 in
set_option maxHeartbeats 1600000 in
theorem eqPacketS_c (w : World) (v u : Value) (xs : List Pk) (h1 : tPk.row w v xs) (h2 : tPk.row w u xs) : Calls Try.prog 96 #[v, u] w (Ret (.bool true) w) := by
  obtain ⟨A1, c1, rfl⟩ := h1.val
  obtain ⟨A2, c2, rfl⟩ := h2.val
  have hm := h1.le
  go_enter Try.func96, Try.ntmps96
  go_wp2
  go_loopw [5] (fun i wr => ∃ k : Nat, k ≤ xs.length ∧ i = .int .i64 k ∧ Fr w wr) (fun i _ => xs.length - (intOf i).toNat)
  case atStart => exact ⟨0, Nat.zero_le _, rfl, Fr.refl w⟩
  case round =>
    obtain ⟨k, hk, rfl, f⟩ := hrel
    by_cases hlt : k < xs.length
    · obtain ⟨ad1, rfl, _, g1⟩ := row_pk_at (h1.fr f) k hlt
      obtain ⟨ad2, rfl, _, g2⟩ := row_pk_at (h2.fr f) k hlt
      have p0 : (0 : Int) ≤ (k : Int) := Int.natCast_nonneg _
      have p1 : (k : Int) < (xs.length : Int) := by omega
      go_wp2
      go_still_tail 8, (by kernel_rfl)
      refine wpStill_rowload rfl _ _ rfl (ad1.add (k * 7)) rfl 7 xs[k].cells _ rfl g1 Try.underlying88 rfl psize88 ?_
      repeat still_step
      refine wpStill_rowload rfl _ _ rfl (ad2.add (k * 7)) rfl 7 xs[k].cells _ rfl g2 Try.underlying88 rfl psize88 ?_
      repeat still_step
      refine wpStill_nil ?_
      simp only [Act.put, Array.set!_eq_setIfInBounds, List.setIfInBounds_toArray, List.set_cons_zero, List.set_cons_succ]
      obtain ⟨w2, hw2⟩ : ∃ w2, w2 = wr.drew := ⟨_, rfl⟩
      have f2 : Fr w w2 := by rw [hw2]; exact f.drew
      change wpList _ _ _ _ _ wr.drew
      rw [← hw2]
      clear hw2
      go_wp2_with (go_at_call 128; (with_reducible refine (eqPacket_c _ xs[k]).mono ?_); rintro e w9 ⟨rfl, f9⟩)
      go_roundw
      case rel => exact ⟨k + 1, by omega, by go_num, f2.trans f9⟩
      case measure => simp [intOf]; omega
    · go_wp2
      go_ret
      exact ⟨rfl, f⟩
end Go.Proofs.Ytapdcgjccckjeaa
namespace Go.Proofs.Ytapdcgjccckjeaa
set_option maxRecDepth 100000
set_option linter.unusedVariables false
set_option linter.unusedSimpArgs false
open Go.RowKit
theorem orow_pk_at {w : World} {A : Option Addr} {n cap e k : Nat} {xs : List Pk} {F : List Nat} (h : tPk.orow e w (.slice A n cap) xs F) (hk : k < xs.length) :
    ∃ g, A = some ⟨g, 0, none⟩ ∧ g ∈ F ∧ xs[k].ok64 ∧ (∀ j, j < 7 → w.cell? ⟨g, k * 7 + j, none⟩ = xs[k].cells[j]?) ∧ (∀ j, w.frozen? ⟨g, j, none⟩ = false) ∧
      ∀ (j : Nat) (u : Value) (y : Pk), y.ok64 → xs[k].cells.set j u = y.cells → j < 7 → tPk.orow e (w.setCell ⟨g, k * 7 + j, none⟩ u) (.slice A n cap) (xs.set k y) F := by
  obtain ⟨g, cap', e'⟩ := h.shape (by omega)
  simp only [Value.slice.injEq] at e'
  obtain ⟨rfl, rfl, rfl⟩ := e'
  obtain ⟨ck, Fk, h2, h3, h4, _, _, h5, h6, _, h7⟩ := h.at_ (h.nodup tPk_flat) hk
  obtain ⟨⟨rfl, ho⟩, rfl⟩ := h3
  refine ⟨g, rfl, h4, ho, fun j hj => ?_, h6, fun j u y hy he hj => ?_⟩
  · have hl : j < xs[k].cells.length := by simpa [Pk.cells] using hj
    rw [List.getElem?_eq_getElem hl]
    exact h5 j hl
  · exact h7 j u y (fun W hW => ⟨⟨he, hy⟩, rfl⟩) hj
/-- A packet written whole. -/
theorem orow_pk_put {w : World} {n cap e k g : Nat} {xs : List Pk} {F : List Nat} (h : tPk.orow e w (.slice (some ⟨g, 0, none⟩) n cap) xs F) (hk : k < xs.length) (p : Pk) (hp : p.ok64) :
    tPk.orow e (((((((w.setCell ⟨g, k * 7 + 0, none⟩ (.int .i64 p.seq)).setCell ⟨g, k * 7 + 1, none⟩ (.int .i64 p.kind)).setCell ⟨g, k * 7 + 2, none⟩ (.int .i64 p.frm)).setCell ⟨g, k * 7 + 3, none⟩ (.int .i64 p.dst)).setCell ⟨g, k * 7 + 4, none⟩ (.int .i64 p.sum)).setCell ⟨g, k * 7 + 5, none⟩ (.int .i64 p.til)).setCell ⟨g, k * 7 + 6, none⟩ (.int .i64 p.ver)) (.slice (some ⟨g, 0, none⟩) n cap) (xs.set k p) F := by
  have step : ∀ (W : World) (ys : List Pk) (hy : k < ys.length) (j : Nat) (u : Value) (y : Pk), tPk.orow e W (.slice (some ⟨g, 0, none⟩) n cap) ys F → y.ok64 → ys[k].cells.set j u = y.cells → j < 7 → tPk.orow e (W.setCell ⟨g, k * 7 + j, none⟩ u) (.slice (some ⟨g, 0, none⟩) n cap) (ys.set k y) F := by
    intro W ys hy j u y ho hy64 he hj
    obtain ⟨g', e1, _, _, _, _, hs⟩ := orow_pk_at ho hy
    cases e1
    exact hs j u y hy64 he hj
  obtain ⟨_, _, _, ho, _, _, _⟩ := orow_pk_at h hk
  obtain ⟨o1, o2, o3, o4, o5, o6, o7⟩ := ho
  obtain ⟨p1, p2, p3, p4, p5, p6, p7⟩ := hp
  have a1 := step _ xs hk 0 (.int .i64 p.seq) { xs[k] with seq := p.seq } h ⟨p1, o2, o3, o4, o5, o6, o7⟩ rfl (by decide)
  have a2 := step _ _ (by simpa using hk) 1 (.int .i64 p.kind) { xs[k] with seq := p.seq, kind := p.kind } a1 ⟨p1, p2, o3, o4, o5, o6, o7⟩ (by rw [List.getElem_set_self]; rfl) (by decide)
  have a3 := step _ _ (by simpa using hk) 2 (.int .i64 p.frm) { xs[k] with seq := p.seq, kind := p.kind, frm := p.frm } a2 ⟨p1, p2, p3, o4, o5, o6, o7⟩ (by rw [List.getElem_set_self]; rfl) (by decide)
  have a4 := step _ _ (by simpa using hk) 3 (.int .i64 p.dst) { xs[k] with seq := p.seq, kind := p.kind, frm := p.frm, dst := p.dst } a3 ⟨p1, p2, p3, p4, o5, o6, o7⟩ (by rw [List.getElem_set_self]; rfl) (by decide)
  have a5 := step _ _ (by simpa using hk) 4 (.int .i64 p.sum) { xs[k] with seq := p.seq, kind := p.kind, frm := p.frm, dst := p.dst, sum := p.sum } a4 ⟨p1, p2, p3, p4, p5, o6, o7⟩ (by rw [List.getElem_set_self]; rfl) (by decide)
  have a6 := step _ _ (by simpa using hk) 5 (.int .i64 p.til) { xs[k] with seq := p.seq, kind := p.kind, frm := p.frm, dst := p.dst, sum := p.sum, til := p.til } a5 ⟨p1, p2, p3, p4, p5, p6, o7⟩ (by rw [List.getElem_set_self]; rfl) (by decide)
  have a7 := step _ _ (by simpa using hk) 6 (.int .i64 p.ver) p a6 ⟨p1, p2, p3, p4, p5, p6, p7⟩ (by rw [List.getElem_set_self]; rfl) (by decide)
  simpa only [List.set_set] using a7
theorem run_store_at {P : Program} {w : World} {g j : Nat} {k : IntKind} {z : Int} {v : Value} (hc : w.cell? ⟨g, j, none⟩ = some v) (hf : w.frozen? ⟨g, j, none⟩ = false) : (store ⟨g, j, none⟩ (.int k z)).run P w = .ok () (w.setCell ⟨g, j, none⟩ (.int k z)) := by
  rw [run_store_int]
  simp [stored, hc, hf]
/-- A packet stored into an owned slice. -/
theorem wpList_pkstore {P : Program} {ops : Array Oper} {rest : List Oper} {o : Oper} {a : Act} {Q : Exit → Act → World → Prop} {W : World} {e g n cap k : Nat} {xs : List Pk} {F : List Nat} (h : tPk.orow e W (.slice (some ⟨g, 0, none⟩) n cap) xs F) (hk : k < xs.length) (p : Pk) (hp : p.ok64)
    (hgd : o.guard = none) (ty : TypeId) (x y : Operand) (ho : o.op = .store ty x y) (hx : a.eval x = .pointer (some ⟨g, k * 7, none⟩)) (hy : a.eval y = .agg p.cells.toArray) (hs : (P.info? ty).map (·.size) = some 7)
    (hK : ∀ w1, tPk.orow e w1 (.slice (some ⟨g, 0, none⟩) n cap) (xs.set k p) F → Chg F W w1 → wpList P ops Q rest (a.put o.dst undef) w1) : wpList P ops Q (o :: rest) a W := by
  have hput := orow_pk_put h hk p hp
  obtain ⟨g', e1, hF, _, hc, hf, _⟩ := orow_pk_at h hk
  cases e1
  have hch : Chg F W _ := ((((((((Chg.refl F W).set (p := ⟨g, k * 7 + 0, none⟩) (.inl hF) (.int .i64 p.seq)).set (p := ⟨g, k * 7 + 1, none⟩) (.inl hF) (.int .i64 p.kind)).set (p := ⟨g, k * 7 + 2, none⟩) (.inl hF) (.int .i64 p.frm)).set (p := ⟨g, k * 7 + 3, none⟩) (.inl hF) (.int .i64 p.dst)).set (p := ⟨g, k * 7 + 4, none⟩) (.inl hF) (.int .i64 p.sum)).set (p := ⟨g, k * 7 + 5, none⟩) (.inl hF) (.int .i64 p.til)).set (p := ⟨g, k * 7 + 6, none⟩) (.inl hF) (.int .i64 p.ver))
  refine wpList_plain hgd fun K hK' => ?_
  have hkk := hK' _ _ (hK _ hput hch)
  have c0 : ∀ j, j < 7 → ∃ v, W.cell? ⟨g, k * 7 + j, none⟩ = some v := fun j hj => ⟨_, (hc j hj).trans (List.getElem?_eq_getElem (by simpa [Pk.cells] using hj))⟩
  have far : ∀ (w : World) (i j : Nat) (u : Value), i ≠ j → (w.setCell ⟨g, k * 7 + i, none⟩ u).cell? ⟨g, k * 7 + j, none⟩ = w.cell? ⟨g, k * 7 + j, none⟩ := fun w i j u hne => World.cell?_setCell_other _ _ _ _ (by simp <;> omega)
  have fr : ∀ (w : World) (i j : Nat) (u : Value), (w.setCell ⟨g, k * 7 + i, none⟩ u).frozen? ⟨g, k * 7 + j, none⟩ = w.frozen? ⟨g, k * 7 + j, none⟩ := fun w i j u => World.frozen?_setCell _ _ _ _
  have hadd : ∀ j, (⟨g, k * 7, none⟩ : Addr).add j = ⟨g, k * 7 + j, none⟩ := fun j => by unfold Addr.add; split <;> simp_all
  obtain ⟨v0, d0⟩ := c0 0 (by decide)
  obtain ⟨v1, d1⟩ := c0 1 (by decide)
  obtain ⟨v2, d2⟩ := c0 2 (by decide)
  obtain ⟨v3, d3⟩ := c0 3 (by decide)
  obtain ⟨v4, d4⟩ := c0 4 (by decide)
  obtain ⟨v5, d5⟩ := c0 5 (by decide)
  obtain ⟨v6, d6⟩ := c0 6 (by decide)
  have hr : (storeCells ⟨g, k * 7, none⟩ p.cells).run P W = .ok () (((((((W.setCell ⟨g, k * 7 + 0, none⟩ (.int .i64 p.seq)).setCell ⟨g, k * 7 + 1, none⟩ (.int .i64 p.kind)).setCell ⟨g, k * 7 + 2, none⟩ (.int .i64 p.frm)).setCell ⟨g, k * 7 + 3, none⟩ (.int .i64 p.dst)).setCell ⟨g, k * 7 + 4, none⟩ (.int .i64 p.sum)).setCell ⟨g, k * 7 + 5, none⟩ (.int .i64 p.til)).setCell ⟨g, k * 7 + 6, none⟩ (.int .i64 p.ver)) := by
    unfold Pk.cells
    simp only [storeCells, Sem.run_bind, hadd]
    rw [run_store_at d0 (hf _), Result.andThen_ok]
    rw [run_store_at (v := v1) (by rw [far _ _ _ _ (by decide)]; exact d1) (by rw [fr]; exact hf _), Result.andThen_ok]
    rw [run_store_at (v := v2) (by rw [far _ _ _ _ (by decide), far _ _ _ _ (by decide)]; exact d2) (by rw [fr, fr]; exact hf _), Result.andThen_ok]
    rw [run_store_at (v := v3) (by rw [far _ _ _ _ (by decide), far _ _ _ _ (by decide), far _ _ _ _ (by decide)]; exact d3) (by rw [fr, fr, fr]; exact hf _), Result.andThen_ok]
    rw [run_store_at (v := v4) (by rw [far _ _ _ _ (by decide), far _ _ _ _ (by decide), far _ _ _ _ (by decide), far _ _ _ _ (by decide)]; exact d4) (by rw [fr, fr, fr, fr]; exact hf _), Result.andThen_ok]
    rw [run_store_at (v := v5) (by rw [far _ _ _ _ (by decide), far _ _ _ _ (by decide), far _ _ _ _ (by decide), far _ _ _ _ (by decide), far _ _ _ _ (by decide)]; exact d5) (by rw [fr, fr, fr, fr, fr]; exact hf _), Result.andThen_ok]
    rw [run_store_at (v := v6) (by rw [far _ _ _ _ (by decide), far _ _ _ _ (by decide), far _ _ _ _ (by decide), far _ _ _ _ (by decide), far _ _ _ _ (by decide), far _ _ _ _ (by decide)]; exact d6) (by rw [fr, fr, fr, fr, fr, fr]; exact hf _), Result.andThen_ok]
    rfl
  have hvs : (Value.agg p.cells.toArray).cells = p.cells.toArray := rfl
  have hvn : p.cells.toArray.size = 7 := rfl
  cases hq : P.info? ty with
  | none => simp [hq] at hs
  | some info =>
    have h1 : info.size = 7 := by simpa [hq] using hs
    unfold Oper.wp execOp
    simp [ho, hx, hy, Instr.storeAt, Instr.sureAddr, storeVar, sizeOf, typeInfo, hq, hvs, hvn, h1, hr, - List.size_toArray]
    exact hkk
end Go.Proofs.Ytapdcgjccckjeaa
namespace Go.Proofs.Ytapdcgjccckjeaa
set_option maxRecDepth 100000
set_option linter.unusedVariables false
set_option linter.unusedSimpArgs false
open Go.RowKit
theorem pinfo88 : (Try.prog.info? 88).map (fun i => (i.zero, i.size, i.bytes)) = some (some (.agg #[.int .i64 0, .int .i64 0, .int .i64 0, .int .i64 0, .int .i64 0, .int .i64 0, .int .i64 0]), 7, 56) := by kernel_rfl
theorem psize86 : (Try.prog.info? 86).map (·.size) = some 7 := by kernel_rfl
def zPk : Pk := ⟨0, 0, 0, 0, 0, 0, 0⟩
theorem zPk_ok : zPk.ok64 := by unfold Pk.ok64 zPk; refine ⟨⟨?_, ?_⟩, ⟨?_, ?_⟩, ⟨?_, ?_⟩, ⟨?_, ?_⟩, ⟨?_, ?_⟩, ⟨?_, ?_⟩, ⟨?_, ?_⟩⟩ <;> simp
theorem wpList_rowload {P : Program} {ops : Array Oper} {rest : List Oper} {o : Oper} {a : Act} {Q : Exit → Act → World → Prop} {w : World} (hg : o.guard = none) (ty : TypeId) (x : Operand) (ho : o.op = .load ty x) (ad : Addr) (hx : a.eval x = .pointer (some ad)) (n : Nat) (cs : List Value) (d : TypeDesc) (hl : cs.length = n) (hc : ∀ j, j < n → w.cell? (ad.add j) = cs[j]?)
    (hu : P.underlying ty = some d) (hd : (match d with | .struct _ | .array _ _ => true | _ => false) = true) (hi : (P.info? ty).map (·.size) = some n) (h : wpList P ops Q rest (a.put o.dst (.agg cs.toArray)) w) : wpList P ops Q (o :: rest) a w :=
  wpList_plain hg fun K hK => by
    unfold Oper.wp execOp
    simp only [ho, hx, Instr.loadAt, Instr.sureAddr, Sem.run_bind, Sem.run_pure, Result.andThen_ok, run_loadVar_cells w ad n ty cs d hl hc hu hd hi]
    exact hK _ _ h
set_option maxHeartbeats 1600000 in
theorem toPacketS_c (w : World) (v : Value) (xs : List Pk) (h1 : tPk.row w v xs) (hm : xs.length ≤ 1048576) : Calls Try.prog 111 #[v] w (RetRow tPk 88 xs w) := by
  obtain ⟨A1, c1, rfl⟩ := h1.val
  obtain ⟨i0, hi, hz⟩ := Option.map_eq_some_iff.1 pinfo88
  simp only [Prod.mk.injEq] at hz
  obtain ⟨hz0, hz1, hz2⟩ := hz
  have hmk : ∀ W : World, (Instr.makeSlice 27 (.int .i64 (xs.length : Int)) (.int .i64 (xs.length : Int))).run Try.prog W = .ok (.slice (some ⟨W.heap.size, 0, none⟩) xs.length xs.length) (W.alloc (.cells (madeCells zPk.cells.toArray (xs.length * 7)) 88)) := by
    intro W
    have hr := run_make (P := Try.prog) W 27 88 i0 _ Try.underlying27 hi hz0 .i64 .i64 xs.length xs.length (by omega) (Int.le_refl _) (by rw [hz2]; omega) (by omega)
    simp only [Int.toNat_natCast, hz1] at hr
    exact hr
  have hmade := orow_made tPk 88 w zPk zPk.cells xs.length (fun _ => ⟨⟨rfl, zPk_ok⟩, rfl⟩) (by omega)
  rw [show xs.length * tPk.sz = xs.length * 7 from rfl] at hmade
  go_enter Try.func111, Try.ntmps111
  go_wp2
  go_loopw [4] (fun i wr => ∃ k : Nat, k ≤ xs.length ∧ i = .int .i64 k ∧ tPk.orow 88 wr (.slice (some ⟨w.heap.size, 0, none⟩) xs.length xs.length) (xs.take k ++ List.replicate (xs.length - k) zPk) [w.heap.size] ∧ Fr w wr) (fun i _ => xs.length - (intOf i).toNat)
  case atStart => exact ⟨0, Nat.zero_le _, rfl, by simpa using hmade, (Fr.refl w).alloc _⟩
  case round =>
    clear hmade hmk
    obtain ⟨k, hk, rfl, hr, hc⟩ := hrel
    have hl : (xs.take k ++ List.replicate (xs.length - k) zPk).length = xs.length := by simp; omega
    by_cases hlt : k < xs.length
    · obtain ⟨ad1, rfl, hok, g1⟩ := row_pk_at (h1.fr hc) k hlt
      have HL := Lib.hid (show k < (xs.take k ++ List.replicate (xs.length - k) zPk).length by omega)
      have HS := Lib.hid (take_set_rep xs zPk k hlt)
      clear hl
      have p1 : (k : Int) < (xs.length : Int) := by omega
      go_wp2_with (first
        | ((with_reducible refine gate_dst (N := 19) rfl ?_); refine wpList_rowload rfl _ _ rfl (ad1.add (k * 7)) rfl 7 xs[k].cells _ rfl g1 Try.underlying86 rfl psize86 ?_)
        | (go_at_call 57; (with_reducible refine (toPacket_c _ xs[k] hok).mono ?_); rintro e w9 ⟨rfl, f9⟩; have q9 := hc.trans f9; have r9 := hr.fr f9)
        | ((with_reducible refine gate_store (p := 21) rfl ?_); refine wpList_pkstore r9 HL.out xs[k] hok rfl _ _ _ rfl rfl rfl psize88 ?_; intro w8 ho8 c8; replace ho8 := Eq.mp (congrArg (fun l => tPk.orow _ w8 _ l _) HS.out) ho8; have q8 := q9.own c8 (fun q hq => by rw [List.mem_singleton.1 hq]; exact Nat.le_refl _)))
      go_roundw
      case rel => exact ⟨k + 1, by omega, by go_num, ho8, q8⟩
      case measure => simp [intOf]; omega
    · obtain rfl : k = xs.length := by omega
      go_wp2
      go_ret
      exact ⟨_, _, rfl, by simpa using hr, by simp, by simp, hc⟩
end Go.Proofs.Ytapdcgjccckjeaa
namespace Go.Proofs.Ytapdcgjccckjeaa
set_option maxRecDepth 100000
set_option linter.unusedVariables false
set_option linter.unusedSimpArgs false
open Go.RowKit

/-- The marks that a slice of ints is given. -/
def marksB (q : Int) (n : Nat) : List Bool := (List.range n).map fun i : Nat => ((q + (i : Int)) % 3 == 0)
theorem marksB_len (q : Int) (n : Nat) : (marksB q n).length = n := by simp [marksB]
theorem marksB_get (q : Int) (n k : Nat) (h : k < n) : (marksB q n)[k]'(by rw [marksB_len]; exact h) = ((q + k) % 3 == 0) := by
  simp [marksB]
theorem marksB_succ (q : Int) (xs : List Bool) (k : Nat) (h : k < xs.length) : (marksB q k ++ xs.drop k).set k ((q + k) % 3 == 0) = marksB q (k + 1) ++ xs.drop (k + 1) := by
  rw [List.set_append_right _ _ (by rw [marksB_len]; omega), marksB_len, Nat.sub_self, List.drop_eq_getElem_cons h, List.set_cons_zero]
  simp [marksB, List.range_succ]
theorem info4 : (Try.prog.info? 4).map (fun i => (i.zero, i.size, i.bytes)) = some (some (.bool false), 1, 1) := by kernel_rfl

set_option maxHeartbeats 400000 in
theorem eqBoolS_c (w : World) (v u : Value) (xs : List Bool) (h1 : tBool.row w v xs) (h2 : tBool.row w u xs) :
    Calls Try.prog 97 #[v, u] w (Ret (.bool true) w) := by
  obtain ⟨A1, c1, rfl⟩ := h1.val
  obtain ⟨A2, c2, rfl⟩ := h2.val
  have hm := h1.le
  go_enter Try.func97, Try.ntmps97
  go_wp2
  go_loopw [5] (fun i wr => ∃ k n : Nat, k ≤ xs.length ∧ i = .int .i64 k ∧ wr = w.drewN n) (fun i _ => xs.length - (intOf i).toNat)
  case atStart => exact ⟨0, 0, Nat.zero_le _, rfl, rfl⟩
  case round =>
    obtain ⟨k, n, hk, rfl, rfl⟩ := hrel
    by_cases hlt : k < xs.length
    · obtain ⟨ad1, rfl, g1⟩ := row_bool_at h1 k hlt
      obtain ⟨ad2, rfl, g2⟩ := row_bool_at h2 k hlt
      have p0 : (0 : Int) ≤ (k : Int) := Int.natCast_nonneg _
      have p1 : (k : Int) < (xs.length : Int) := by omega
      go_wp2
      go_quiet (fail)
      go_wp2
      go_roundw
      case rel => exact ⟨k + 1, _, by omega, by go_num, rfl⟩
      case measure => simp [intOf]; omega
    · go_wp2
      go_ret
      exact ⟨rfl, (Fr.refl w).drewN n⟩

set_option maxHeartbeats 400000 in
theorem heldBoolS_c (w : World) (v : Value) (n : Nat) (q : Int) (h1 : tBool.row w v (marksB q n)) (hn : n ≤ 2097152) (hq0 : 0 ≤ q) (hq1 : q ≤ 1000000000000000000) :
    Calls Try.prog 101 #[v, .int .i64 q] w (Ret (.int .i64 (q + n)) w) := by
  obtain ⟨A1, c1, rfl⟩ := h1.val
  have hl := marksB_len q n
  rw [hl] at h1 ⊢
  have Hl := Lib.hid hl
  clear hl
  go_enter Try.func101, Try.ntmps101
  go_wp2
  go_loop [1, 5] (fun q' i => ∃ k : Nat, k ≤ n ∧ i = .int .i64 k ∧ q' = .int .i64 (q + k)) (fun _ i => n - (intOf i).toNat)
  case atStart => exact ⟨0, Nat.zero_le _, rfl, by simp⟩
  case round =>
    obtain ⟨k, hk, rfl, rfl⟩ := hrel
    by_cases hlt : k < n
    · obtain ⟨ad1, rfl, g1⟩ := row_bool_at h1 k (by rw [Hl.out]; exact hlt)
      rw [marksB_get q n k hlt] at g1
      go_wp2
      go_round
      case rel => exact ⟨k + 1, by omega, by go_num, by go_num⟩
      case measure => simp [intOf]; omega
    · obtain rfl : k = n := by omega
      go_wp2
      go_ret
      exact ⟨rfl, Fr.refl w⟩

set_option maxHeartbeats 400000 in
theorem markBoolS_c (w : World) (v : Value) (xs : List Bool) (F : List Nat) (q : Int) (h1 : tBool.orow 4 w v xs F) (hq0 : 0 ≤ q) (hq1 : q ≤ 1000000000000000000) :
    Calls Try.prog 99 #[v, .int .i64 q] w (RetMkRow tBool 4 (q + xs.length) (marksB q xs.length) v F w) := by
  obtain ⟨A1, c1, rfl⟩ := h1.row.val
  have hm := h1.le
  go_enter Try.func99, Try.ntmps99
  go_wp2
  go_loopw [1, 5] (fun q' i wr => ∃ k : Nat, k ≤ xs.length ∧ i = .int .i64 k ∧ q' = .int .i64 (q + k) ∧ tBool.orow 4 wr (.slice A1 xs.length c1) (marksB q k ++ xs.drop k) F ∧ Chg F w wr) (fun _ i _ => xs.length - (intOf i).toNat)
  case atStart => exact ⟨0, Nat.zero_le _, rfl, by simp, by simpa [marksB] using h1, Chg.refl _ _⟩
  case round =>
    obtain ⟨k, hk, rfl, rfl, hr, hc⟩ := hrel
    have hl : (marksB q k ++ xs.drop k).length = xs.length := by simp [marksB_len]; omega
    by_cases hlt : k < xs.length
    · obtain ⟨g, y, rfl, h4, g1, g2, hs⟩ := orow_bool_at hr (k := k) (by omega)
      have hs2 := hs ((q + k) % 3 == 0)
      rw [marksB_succ q xs k hlt] at hs2
      clear hs hr hl
      go_wp2
      go_roundw
      case rel => exact ⟨k + 1, by omega, by go_num, by go_num, hs2, hc.set (.inl h4) _⟩
      case measure => simp [intOf]; omega
    · obtain rfl : k = xs.length := by omega
      go_wp2
      go_ret
      exact ⟨rfl, by simpa using hr, hc⟩

theorem szBoolS_c (w : World) (v : Value) (xs : List Bool) (left : Int) (h1 : tBool.row w v xs) (hl0 : 0 ≤ left) (hl1 : left ≤ 1048576) :
    Calls Try.prog 109 #[v, .int .i64 left] w (Ret (.int .i64 (szr left xs.length)) w) := by
  obtain ⟨A1, c1, rfl⟩ := h1.val
  have hm := h1.le
  unfold szr
  by_cases h : (xs.length : Int) ≤ left
  all_goals
    simp only [h, if_true, if_false]
    go_enter Try.func109, Try.ntmps109
    go_wp2
    go_ret
    exact ⟨rfl, Fr.refl w⟩


set_option maxHeartbeats 400000 in
theorem toBoolS_c (w : World) (v : Value) (xs : List Bool) (h1 : tBool.row w v xs) (hm : xs.length ≤ 1048576) :
    Calls Try.prog 112 #[v] w (RetRow tBool 4 xs w) := by
  obtain ⟨A1, c1, rfl⟩ := h1.val
  have hmk := fun W => run_make_row' (P := Try.prog) 28 4 (.bool false) 1 Try.underlying28 info4 rfl .i64 .i64 xs.length (by omega) (by omega) W
  have hmade := orow_made tBool 4 w false [.bool false] xs.length (fun _ => ⟨rfl, rfl⟩) (by omega)
  rw [show xs.length * tBool.sz = xs.length from Nat.mul_one _] at hmade
  go_enter Try.func112, Try.ntmps112
  go_wp2
  go_loopw [4] (fun i wr => ∃ k : Nat, k ≤ xs.length ∧ i = .int .i64 k ∧ tBool.orow 4 wr (.slice (some ⟨w.heap.size, 0, none⟩) xs.length xs.length) (xs.take k ++ List.replicate (xs.length - k) false) [w.heap.size] ∧ Fr w wr) (fun i _ => xs.length - (intOf i).toNat)
  case atStart => exact ⟨0, Nat.zero_le _, rfl, by simpa using hmade, (Fr.refl w).alloc _⟩
  case round =>
    clear hmade hmk
    obtain ⟨k, hk, rfl, hr, hc⟩ := hrel
    have hl : (xs.take k ++ List.replicate (xs.length - k) false).length = xs.length := by simp; omega
    by_cases hlt : k < xs.length
    · obtain ⟨g, y, e, h4, g1, g2, hs⟩ := orow_bool_at hr (k := k) (by omega)
      cases e
      obtain ⟨ad1, rfl, g3⟩ := row_bool_at (h1.fr hc) k hlt
      have hs2 := hs xs[k]
      rw [take_set_rep xs false k hlt] at hs2
      clear hs hr hl h4
      go_wp2
      go_roundw
      case rel => exact ⟨k + 1, by omega, by go_num, hs2, hc.set (Nat.le_refl _) _⟩
      case measure => simp [intOf]; omega
    · obtain rfl : k = xs.length := by omega
      go_wp2
      go_ret
      exact ⟨_, _, rfl, by simpa using hr, by simp, by simp, hc⟩
end Go.Proofs.Ytapdcgjccckjeaa
namespace Go.Proofs.Ytapdcgjccckjeaa
set_option maxRecDepth 100000
set_option linter.unusedVariables false
set_option linter.unusedSimpArgs false
def I64 (x : Int) : Prop := -9223372036854775808 ≤ x ∧ x ≤ 9223372036854775807
end Go.Proofs.Ytapdcgjccckjeaa
namespace Go.Proofs.Ytapdcgjccckjeaa
set_option maxRecDepth 100000
set_option linter.unusedVariables false
set_option linter.unusedSimpArgs false
open Go.RowKit
structure St where
  way : Int
  vsn : Int
  want : Int
  sent : List Pk
  live : List Bool
  back : List Bool
  got : List Int
def tSt : Ty St where
  sz := 7
  rd := fun w s cs => ∃ v1 v2 v3 v4, cs = [.int .i64 s.way, .int .i64 s.vsn, .int .i64 s.want, v1, v2, v3, v4] ∧ tPk.row w v1 s.sent ∧ tBool.row w v2 s.live ∧ tBool.row w v3 s.back ∧ tInt.row w v4 s.got ∧ (I64 s.way ∧ I64 s.vsn ∧ I64 s.want)
  own := fun w s cs F => ∃ v1 v2 v3 v4 F1 F2 F3 F4, cs = [.int .i64 s.way, .int .i64 s.vsn, .int .i64 s.want, v1, v2, v3, v4] ∧ F = F1 ++ (F2 ++ (F3 ++ F4)) ∧ tPk.orow 88 w v1 s.sent F1 ∧ tBool.orow 4 w v2 s.live F2 ∧ tBool.orow 4 w v3 s.back F3 ∧ tInt.orow 3 w v4 s.got F4 ∧ (I64 s.way ∧ I64 s.vsn ∧ I64 s.want)
  len := by rintro w x cs ⟨v1, v2, v3, v4, rfl, _⟩; rfl
  fr := by rintro w w' x cs f ⟨v1, v2, v3, v4, rfl, h1, h2, h3, h4, h5⟩; exact ⟨v1, v2, v3, v4, rfl, h1.fr f, h2.fr f, h3.fr f, h4.fr f, h5⟩
  own_rd := by rintro w x cs F ⟨v1, v2, v3, v4, F1, F2, F3, F4, rfl, rfl, h1, h2, h3, h4, h5⟩; exact ⟨v1, v2, v3, v4, rfl, h1.row, h2.row, h3.row, h4.row, h5⟩
  own_lt := by
    rintro w x cs F ⟨v1, v2, v3, v4, F1, F2, F3, F4, rfl, rfl, h1, h2, h3, h4, h5⟩ g hg
    rcases List.mem_append.1 hg with hg | hg
    · exact h1.lt g hg
    rcases List.mem_append.1 hg with hg | hg
    · exact h2.lt g hg
    rcases List.mem_append.1 hg with hg | hg
    · exact h3.lt g hg
    · exact h4.lt g hg
  keep := by
    rintro w w' x cs F ⟨v1, v2, v3, v4, F1, F2, F3, F4, rfl, rfl, h1, h2, h3, h4, h5⟩ hk
    exact ⟨v1, v2, v3, v4, F1, F2, F3, F4, rfl, rfl, h1.keep (fun g hg => hk g (List.mem_append_left _ hg)), h2.keep (fun g hg => hk g (List.mem_append_right _ (List.mem_append_left _ hg))), h3.keep (fun g hg => hk g (List.mem_append_right _ (List.mem_append_right _ (List.mem_append_left _ hg)))), h4.keep (fun g hg => hk g (List.mem_append_right _ (List.mem_append_right _ (List.mem_append_right _ hg)))), h5⟩
  one := by
    rintro w x cs F ⟨v1, v2, v3, v4, F1, F2, F3, F4, rfl, rfl, h1, h2, h3, h4, h5⟩ u hu
    simp only [List.mem_cons, List.not_mem_nil, or_false] at hu
    rcases hu with rfl | rfl | rfl | rfl | rfl | rfl | rfl
    · rfl
    · rfl
    · rfl
    · exact h1.one
    · exact h2.one
    · exact h3.one
    · exact h4.one
theorem tSt_mk {w : World} {s : St} {v1 v2 v3 v4 : Value} (h1 : tPk.row w v1 s.sent) (h2 : tBool.row w v2 s.live) (h3 : tBool.row w v3 s.back) (h4 : tInt.row w v4 s.got) (h5 : I64 s.way ∧ I64 s.vsn ∧ I64 s.want) : tSt.rd w s [.int .i64 s.way, .int .i64 s.vsn, .int .i64 s.want, v1, v2, v3, v4] := ⟨v1, v2, v3, v4, rfl, h1, h2, h3, h4, h5⟩
set_option maxHeartbeats 1600000 in
theorem eqState_c (w : World) (s : St) (c1 c2 : List Value) (h1 : tSt.rd w s c1) (h2 : tSt.rd w s c2) : Calls Try.prog 43 #[.agg c1.toArray, .agg c2.toArray] w (Ret (.bool true) w) := by
  obtain ⟨v1, v2, v3, v4, rfl, h11, h12, h13, h14, h15⟩ := h1
  obtain ⟨u1, u2, u3, u4, rfl, h21, h22, h23, h24, _⟩ := h2
  have f := Fr.refl w
  go_enter Try.func43, Try.ntmps43
  go_wp2_with (first
    | ((with_reducible refine gate_dst (N := 2) rfl ?_); refine wpList_box rfl _ _ rfl #[.int .i64 s.way, .int .i64 s.vsn, .int .i64 s.want, v1, v2, v3, v4] rfl ?_; intro g_k2 w9 hg_k2 k2 f9; have zf_k2 := f.size; have hl_k2 := k2.lt; have z9 := f9.size; replace f := f.trans f9; (try replace h11 := h11.fr f9); (try replace h12 := h12.fr f9); (try replace h13 := h13.fr f9); (try replace h14 := h14.fr f9); (try replace h21 := h21.fr f9); (try replace h22 := h22.fr f9); (try replace h23 := h23.fr f9); (try replace h24 := h24.fr f9); (try (replace k3 := k3.fr f9; (try clear r_k3); have r_k3 := k3.cells)); (try clear r_k2); have r_k2 := k2.cells)
    | ((with_reducible refine gate_dst (N := 3) rfl ?_); refine wpList_box rfl _ _ rfl #[.int .i64 s.way, .int .i64 s.vsn, .int .i64 s.want, u1, u2, u3, u4] rfl ?_; intro g_k3 w9 hg_k3 k3 f9; have zf_k3 := f.size; have hl_k3 := k3.lt; have z9 := f9.size; replace f := f.trans f9; (try replace h11 := h11.fr f9); (try replace h12 := h12.fr f9); (try replace h13 := h13.fr f9); (try replace h14 := h14.fr f9); (try replace h21 := h21.fr f9); (try replace h22 := h22.fr f9); (try replace h23 := h23.fr f9); (try replace h24 := h24.fr f9); (try (replace k2 := k2.fr f9; (try clear r_k2); have r_k2 := k2.cells)); (try clear r_k3); have r_k3 := k3.cells)
    | (go_at_call 96; (with_reducible refine (eqPacketS_c _ _ _ _ (by assumption) (by assumption)).mono ?_); rintro e w9 ⟨rfl, f9⟩; have z9 := f9.size; replace f := f.trans f9; (try replace h11 := h11.fr f9); (try replace h12 := h12.fr f9); (try replace h13 := h13.fr f9); (try replace h14 := h14.fr f9); (try replace h21 := h21.fr f9); (try replace h22 := h22.fr f9); (try replace h23 := h23.fr f9); (try replace h24 := h24.fr f9); (try (replace k2 := k2.fr f9; (try clear r_k2); have r_k2 := k2.cells)); (try (replace k3 := k3.fr f9; (try clear r_k3); have r_k3 := k3.cells)))
    | (go_at_call 97; (with_reducible refine (eqBoolS_c _ _ _ _ (by assumption) (by assumption)).mono ?_); rintro e w9 ⟨rfl, f9⟩; have z9 := f9.size; replace f := f.trans f9; (try replace h11 := h11.fr f9); (try replace h12 := h12.fr f9); (try replace h13 := h13.fr f9); (try replace h14 := h14.fr f9); (try replace h21 := h21.fr f9); (try replace h22 := h22.fr f9); (try replace h23 := h23.fr f9); (try replace h24 := h24.fr f9); (try (replace k2 := k2.fr f9; (try clear r_k2); have r_k2 := k2.cells)); (try (replace k3 := k3.fr f9; (try clear r_k3); have r_k3 := k3.cells)))
    | (go_at_call 72; (with_reducible refine (eqIntS_c _ _ _ _ (by assumption) (by assumption)).mono ?_); rintro e w9 ⟨rfl, f9⟩; have z9 := f9.size; replace f := f.trans f9; (try replace h11 := h11.fr f9); (try replace h12 := h12.fr f9); (try replace h13 := h13.fr f9); (try replace h14 := h14.fr f9); (try replace h21 := h21.fr f9); (try replace h22 := h22.fr f9); (try replace h23 := h23.fr f9); (try replace h24 := h24.fr f9); (try (replace k2 := k2.fr f9; (try clear r_k2); have r_k2 := k2.cells)); (try (replace k3 := k3.fr f9; (try clear r_k3); have r_k3 := k3.cells))))
  go_ret
  exact ⟨rfl, f⟩
end Go.Proofs.Ytapdcgjccckjeaa
namespace Go.Proofs.Ytapdcgjccckjeaa
set_option maxRecDepth 100000
set_option linter.unusedVariables false
set_option linter.unusedSimpArgs false
open Go.RowKit
def markPk (q : Int) : Pk := ⟨q, q + 1, q + 2, q + 3, q + 4, q + 5, q + 6⟩
def marksP (q : Int) (n : Nat) : List Pk := (List.range n).map fun i : Nat => markPk (q + 7 * (i : Int))
theorem marksP_len (q : Int) (n : Nat) : (marksP q n).length = n := by simp [marksP]
theorem marksP_get (q : Int) (n k : Nat) (h : k < n) : (marksP q n)[k]'(by rw [marksP_len]; exact h) = markPk (q + 7 * k) := by
  simp [marksP]
theorem marksP_succ (q : Int) (xs : List Pk) (k : Nat) (h : k < xs.length) : (marksP q k ++ xs.drop k).set k (markPk (q + 7 * k)) = marksP q (k + 1) ++ xs.drop (k + 1) := by
  rw [List.set_append_right _ _ (by rw [marksP_len]; omega), marksP_len, Nat.sub_self, List.drop_eq_getElem_cons h, List.set_cons_zero]
  simp [marksP, List.range_succ]
set_option maxHeartbeats 1600000 in
theorem heldPacketS_c (w : World) (v : Value) (n : Nat) (q : Int) (h1 : tPk.row w v (marksP q n)) (hn : n ≤ 2097152) (hq0 : 0 ≤ q) (hq1 : q ≤ 1000000000000000000) :
    Calls Try.prog 100 #[v, .int .i64 q] w (Ret (.int .i64 (q + 7 * n)) w) := by
  obtain ⟨A1, c1, rfl⟩ := h1.val
  have hl := marksP_len q n
  rw [hl] at h1 ⊢
  have Hl := Lib.hid hl
  clear hl
  go_enter Try.func100, Try.ntmps100
  go_wp2
  go_loop [1, 5] (fun q' i => ∃ k : Nat, k ≤ n ∧ i = .int .i64 k ∧ q' = .int .i64 (q + 7 * k)) (fun _ i => n - (intOf i).toNat)
  case atStart => exact ⟨0, Nat.zero_le _, rfl, by simp⟩
  case round =>
    obtain ⟨k, hk, rfl, rfl⟩ := hrel
    by_cases hlt : k < n
    · obtain ⟨ad1, rfl, _, g1⟩ := row_pk_at h1 k (by rw [Hl.out]; exact hlt)
      rw [marksP_get q n k hlt] at g1
      have e0 := g1 0 (by decide)
      have e1 := g1 1 (by decide)
      have e2 := g1 2 (by decide)
      have e3 := g1 3 (by decide)
      have e4 := g1 4 (by decide)
      have e5 := g1 5 (by decide)
      have e6 := g1 6 (by decide)
      simp only [Pk.cells, markPk, List.getElem?_cons_zero, List.getElem?_cons_succ] at e0 e1 e2 e3 e4 e5 e6
      rw [Go.Deep.add_add, Nat.add_zero] at e0
      rw [Addr.add_succ'] at e1
      rw [Addr.add_succ'] at e2
      rw [Addr.add_succ'] at e3
      rw [Addr.add_succ'] at e4
      rw [Addr.add_succ'] at e5
      rw [Addr.add_succ'] at e6
      go_wp2
      go_round
      case rel => exact ⟨k + 1, by omega, by go_num, by congr 1; omega⟩
      case measure => simp [intOf]; omega
    · obtain rfl : k = n := by omega
      go_wp2
      go_ret
      exact ⟨rfl, Fr.refl w⟩
end Go.Proofs.Ytapdcgjccckjeaa
namespace Go.Proofs.Ytapdcgjccckjeaa
set_option maxRecDepth 100000
set_option linter.unusedVariables false
set_option linter.unusedSimpArgs false
open Go.RowKit
theorem pk_set {x0 x1 : Pk} {j : Nat} {u : Value} (h : x0.cells.set j u = x1.cells) (ho : x0.ok64 → x1.ok64) : ∀ (w : World) (cs : List Value) (G : List Nat), tPk.own w x0 cs G → tPk.own w x1 (cs.set j u) G := by
  rintro w cs G ⟨⟨rfl, h1⟩, rfl⟩
  exact ⟨⟨h, ho h1⟩, rfl⟩
set_option maxRecDepth 100000 in
set_option maxHeartbeats 3200000 in
theorem markPacketS_c (w : World) (v : Value) (xs : List Pk) (F : List Nat) (q : Int) (h1 : tPk.orow 88 w v xs F) (hq0 : 0 ≤ q) (hq1 : q ≤ 100000000000000000) :
    Calls Try.prog 98 #[v, .int .i64 q] w (RetMkRow tPk 88 (q + 7 * xs.length) (marksP q xs.length) v F w) := by
  obtain ⟨A1, c1, rfl⟩ := h1.row.val
  have hm := h1.le
  have S := Sep.startRow h1 (h1.nodup tPk_flat)
  go_enter Try.func98, Try.ntmps98
  go_wp2
  go_loopw [1, 5] (fun q' i wr => ∃ k : Nat, k ≤ xs.length ∧ i = .int .i64 k ∧ q' = .int .i64 (q + 7 * k) ∧ Sep F w [aRow tPk 88 (marksP q k ++ xs.drop k) (.slice A1 xs.length c1) F] wr) (fun _ i _ => xs.length - (intOf i).toNat)
  case atStart => exact ⟨0, Nat.zero_le _, rfl, by simp, by simpa [marksP] using S⟩
  case round =>
    clear S h1
    obtain ⟨k, hk, rfl, rfl, S⟩ := hrel
    by_cases hlt : k < xs.length
    · obtain ⟨x, hx⟩ : ∃ x, xs[k] = x := ⟨_, rfl⟩
      have hd : xs.drop k = x :: xs.drop (k + 1) := by rw [← hx]; exact List.drop_eq_getElem_cons hlt
      rw [hd] at S
      obtain ⟨gg, cap', e'⟩ := (S.row (d := tPk) (F := F) (xs := marksP q k ++ x :: xs.drop (k + 1)) memA).shape (by rw [List.length_append, List.length_cons]; omega)
      simp only [Value.slice.injEq] at e'
      obtain ⟨rfl, hlx, rfl⟩ := e'
      clear hlx
      have hA := Lib.hid (marksP_len q k)
      have hs2 : marksP q k ++ (⟨q + 7 * (k : Int), q + 7 * (k : Int) + 1, q + 7 * (k : Int) + 1 + 1, q + 7 * (k : Int) + 1 + 1 + 1, q + 7 * (k : Int) + 1 + 1 + 1 + 1, q + 7 * (k : Int) + 1 + 1 + 1 + 1 + 1, q + 7 * (k : Int) + 1 + 1 + 1 + 1 + 1 + 1⟩ : Pk) :: xs.drop (k + 1) = marksP q (k + 1) ++ xs.drop (k + 1) := by
        rw [← marksP_succ q xs k hlt, hd, set_mid (marksP_len q k)]
        congr 2
        simp only [markPk]
        congr 1 <;> omega
      have HS := Lib.hid hs2
      clear hx hd hs2
      have p1 : (k : Int) < (xs.length : Int) := by omega
      go_wp2_with (first
        | ((with_reducible refine gate_store (p := 16) rfl ?_); refine wpList_sfield (d := tPk) (k := k) (j := 0) (x0 := (⟨x.seq, x.kind, x.frm, x.dst, x.sum, x.til, x.ver⟩ : Pk)) (x1 := (⟨q + 7 * (k : Int), x.kind, x.frm, x.dst, x.sum, x.til, x.ver⟩ : Pk)) S (by rfl) 3 _ _ rfl rfl (.int .i64 _) rfl rfl ts3 memA hA.out (by first | rfl | simp [tPk]) (by decide) (pk_set rfl (fun h => by simp only [Pk.ok64] at h ⊢; omega)) putA ?_; clear S; intro w9 S)
        | ((with_reducible refine gate_store (p := 23) rfl ?_); refine wpList_sfield (d := tPk) (k := k) (j := 1) (x0 := (⟨q + 7 * (k : Int), x.kind, x.frm, x.dst, x.sum, x.til, x.ver⟩ : Pk)) (x1 := (⟨q + 7 * (k : Int), q + 7 * (k : Int) + 1, x.frm, x.dst, x.sum, x.til, x.ver⟩ : Pk)) S (by rfl) 3 _ _ rfl rfl (.int .i64 _) rfl rfl ts3 memA hA.out (by first | rfl | simp [tPk]) (by decide) (pk_set rfl (fun h => by simp only [Pk.ok64] at h ⊢; omega)) putA ?_; clear S; intro w9 S)
        | ((with_reducible refine gate_store (p := 30) rfl ?_); refine wpList_sfield (d := tPk) (k := k) (j := 2) (x0 := (⟨q + 7 * (k : Int), q + 7 * (k : Int) + 1, x.frm, x.dst, x.sum, x.til, x.ver⟩ : Pk)) (x1 := (⟨q + 7 * (k : Int), q + 7 * (k : Int) + 1, q + 7 * (k : Int) + 1 + 1, x.dst, x.sum, x.til, x.ver⟩ : Pk)) S (by rfl) 3 _ _ rfl rfl (.int .i64 _) rfl rfl ts3 memA hA.out (by first | rfl | simp [tPk]) (by decide) (pk_set rfl (fun h => by simp only [Pk.ok64] at h ⊢; omega)) putA ?_; clear S; intro w9 S)
        | ((with_reducible refine gate_store (p := 37) rfl ?_); refine wpList_sfield (d := tPk) (k := k) (j := 3) (x0 := (⟨q + 7 * (k : Int), q + 7 * (k : Int) + 1, q + 7 * (k : Int) + 1 + 1, x.dst, x.sum, x.til, x.ver⟩ : Pk)) (x1 := (⟨q + 7 * (k : Int), q + 7 * (k : Int) + 1, q + 7 * (k : Int) + 1 + 1, q + 7 * (k : Int) + 1 + 1 + 1, x.sum, x.til, x.ver⟩ : Pk)) S (by rfl) 3 _ _ rfl rfl (.int .i64 _) rfl rfl ts3 memA hA.out (by first | rfl | simp [tPk]) (by decide) (pk_set rfl (fun h => by simp only [Pk.ok64] at h ⊢; omega)) putA ?_; clear S; intro w9 S)
        | ((with_reducible refine gate_store (p := 44) rfl ?_); refine wpList_sfield (d := tPk) (k := k) (j := 4) (x0 := (⟨q + 7 * (k : Int), q + 7 * (k : Int) + 1, q + 7 * (k : Int) + 1 + 1, q + 7 * (k : Int) + 1 + 1 + 1, x.sum, x.til, x.ver⟩ : Pk)) (x1 := (⟨q + 7 * (k : Int), q + 7 * (k : Int) + 1, q + 7 * (k : Int) + 1 + 1, q + 7 * (k : Int) + 1 + 1 + 1, q + 7 * (k : Int) + 1 + 1 + 1 + 1, x.til, x.ver⟩ : Pk)) S (by rfl) 3 _ _ rfl rfl (.int .i64 _) rfl rfl ts3 memA hA.out (by first | rfl | simp [tPk]) (by decide) (pk_set rfl (fun h => by simp only [Pk.ok64] at h ⊢; omega)) putA ?_; clear S; intro w9 S)
        | ((with_reducible refine gate_store (p := 51) rfl ?_); refine wpList_sfield (d := tPk) (k := k) (j := 5) (x0 := (⟨q + 7 * (k : Int), q + 7 * (k : Int) + 1, q + 7 * (k : Int) + 1 + 1, q + 7 * (k : Int) + 1 + 1 + 1, q + 7 * (k : Int) + 1 + 1 + 1 + 1, x.til, x.ver⟩ : Pk)) (x1 := (⟨q + 7 * (k : Int), q + 7 * (k : Int) + 1, q + 7 * (k : Int) + 1 + 1, q + 7 * (k : Int) + 1 + 1 + 1, q + 7 * (k : Int) + 1 + 1 + 1 + 1, q + 7 * (k : Int) + 1 + 1 + 1 + 1 + 1, x.ver⟩ : Pk)) S (by rfl) 3 _ _ rfl rfl (.int .i64 _) rfl rfl ts3 memA hA.out (by first | rfl | simp [tPk]) (by decide) (pk_set rfl (fun h => by simp only [Pk.ok64] at h ⊢; omega)) putA ?_; clear S; intro w9 S)
        | ((with_reducible refine gate_store (p := 58) rfl ?_); refine wpList_sfield (d := tPk) (k := k) (j := 6) (x0 := (⟨q + 7 * (k : Int), q + 7 * (k : Int) + 1, q + 7 * (k : Int) + 1 + 1, q + 7 * (k : Int) + 1 + 1 + 1, q + 7 * (k : Int) + 1 + 1 + 1 + 1, q + 7 * (k : Int) + 1 + 1 + 1 + 1 + 1, x.ver⟩ : Pk)) (x1 := (⟨q + 7 * (k : Int), q + 7 * (k : Int) + 1, q + 7 * (k : Int) + 1 + 1, q + 7 * (k : Int) + 1 + 1 + 1, q + 7 * (k : Int) + 1 + 1 + 1 + 1, q + 7 * (k : Int) + 1 + 1 + 1 + 1 + 1, q + 7 * (k : Int) + 1 + 1 + 1 + 1 + 1 + 1⟩ : Pk)) S (by rfl) 3 _ _ rfl rfl (.int .i64 _) rfl rfl ts3 memA hA.out (by first | rfl | simp [tPk]) (by decide) (pk_set rfl (fun h => by simp only [Pk.ok64] at h ⊢; omega)) putA ?_; clear S; intro w9 S))
      rw [HS.out] at S
      go_roundw
      case rel => exact ⟨k + 1, by omega, by go_num, by congr 1; omega, S⟩
      case measure => simp [intOf]; omega
    · obtain rfl : k = xs.length := by omega
      rw [List.drop_length, List.append_nil] at S
      go_wp2
      go_ret
      exact ⟨rfl, S.row memA, S.chg⟩
end Go.Proofs.Ytapdcgjccckjeaa
namespace Go.Proofs.Ytapdcgjccckjeaa
set_option maxRecDepth 100000
set_option linter.unusedVariables false
set_option linter.unusedSimpArgs false
open Go.RowKit
def cntSt (s : St) : Nat := s.sent.length + (s.live.length + (s.back.length + s.got.length))
def cntMSt (s : St) : Nat := 7 * s.sent.length + (s.live.length + (s.back.length + s.got.length))
def markSt (q : Int) (s : St) : St := { s with sent := marksP q s.sent.length, live := marksB (q + 7 * s.sent.length) s.live.length, back := marksB (q + 7 * s.sent.length + s.live.length) s.back.length, got := marksI (q + 7 * s.sent.length + s.live.length + s.back.length) s.got.length }
def Small (s : St) : Prop := s.sent.length ≤ 2097152 ∧ s.live.length ≤ 2097152 ∧ s.back.length ≤ 2097152 ∧ s.got.length ≤ 2097152
section
variable {F0 : List Nat} {w0 w : World} {L : List Asrt} {s : St} {cs : List Value} {F : List Nat}
theorem Sep.openSt (S : Sep F0 w0 (aOwn tSt s cs F :: L) w) : ∃ A1 c1 A2 c2 A3 c3 A4 c4 F1 F2 F3 F4, cs = [.int .i64 s.way, .int .i64 s.vsn, .int .i64 s.want, .slice A1 s.sent.length c1, .slice A2 s.live.length c2, .slice A3 s.back.length c3, .slice A4 s.got.length c4] ∧ F = F1 ++ (F2 ++ (F3 ++ F4)) ∧ (I64 s.way ∧ I64 s.vsn ∧ I64 s.want) ∧
    Sep F0 w0 (aRow tPk 88 s.sent (.slice A1 s.sent.length c1) F1 :: aRow tBool 4 s.live (.slice A2 s.live.length c2) F2 :: aRow tBool 4 s.back (.slice A3 s.back.length c3) F3 :: aRow tInt 3 s.got (.slice A4 s.got.length c4) F4 :: L) w := by
  have h := S.own (d := tSt) (x := s) (cs := cs) (F := F) (by simp)
  obtain ⟨v1, v2, v3, v4, F1, F2, F3, F4, rfl, rfl, h1, h2, h3, h4, h5⟩ := h
  obtain ⟨A1, c1, rfl⟩ := h1.row.val
  obtain ⟨A2, c2, rfl⟩ := h2.row.val
  obtain ⟨A3, c3, rfl⟩ := h3.row.val
  obtain ⟨A4, c4, rfl⟩ := h4.row.val
  refine ⟨A1, c1, A2, c2, A3, c3, A4, c4, F1, F2, F3, F4, rfl, rfl, h5, S.conv [aRow tPk 88 s.sent _ F1, aRow tBool 4 s.live _ F2, aRow tBool 4 s.back _ F3, aRow tInt 3 s.got _ F4] (by simp [fps, aRow, aOwn]) ?_⟩
  intro x hx
  simp only [List.mem_cons, List.not_mem_nil, or_false] at hx
  rcases hx with rfl | rfl | rfl | rfl
  · exact h1
  · exact h2
  · exact h3
  · exact h4
theorem Sep.shutSt {x y z : Int} {ps : List Pk} {bs cs : List Bool} {gs : List Int} {v1 v2 v3 v4 : Value} {F1 F2 F3 F4 : List Nat} (S : Sep F0 w0 (aRow tPk 88 ps v1 F1 :: aRow tBool 4 bs v2 F2 :: aRow tBool 4 cs v3 F3 :: aRow tInt 3 gs v4 F4 :: L) w) (hI : I64 x ∧ I64 y ∧ I64 z) :
    Sep F0 w0 (aOwn tSt ⟨x, y, z, ps, bs, cs, gs⟩ [.int .i64 x, .int .i64 y, .int .i64 z, v1, v2, v3, v4] (F1 ++ (F2 ++ (F3 ++ F4))) :: L) w := by
  refine Sep.join [aRow tPk 88 ps v1 F1, aRow tBool 4 bs v2 F2, aRow tBool 4 cs v3 F3, aRow tInt 3 gs v4 F4] S _ (by simp [fps, aRow, aOwn]) fun h => ?_
  exact ⟨v1, v2, v3, v4, F1, F2, F3, F4, rfl, rfl, h (aRow tPk 88 ps v1 F1) (by simp), h (aRow tBool 4 bs v2 F2) (by simp), h (aRow tBool 4 cs v3 F3) (by simp), h (aRow tInt 3 gs v4 F4) (by simp), hI⟩
end
theorem szr_yes {l : Int} {n : Nat} (h : (n : Int) ≤ l) : szr l n = l - n := if_pos h
theorem szr_no {l : Int} {n : Nat} (h : ¬ (n : Int) ≤ l) : szr l n = -1 := if_neg h
set_option maxHeartbeats 1600000 in
theorem szState_c (w : World) (s : St) (c1 : List Value) (left : Int) (h1 : tSt.rd w s c1) (hl0 : 0 ≤ left) (hl1 : left ≤ 1048576) :
    Calls Try.prog 50 #[.agg c1.toArray, .int .i64 left] w (Ret (.int .i64 (szr left (cntSt s))) w) := by
  obtain ⟨v1, v2, v3, v4, rfl, h11, h12, h13, h14, h15⟩ := h1
  have S := Sep.start w
  by_cases e1 : (s.sent.length : Int) ≤ left
  case neg =>
    have s1 := Lib.hid (szr_no e1)
    have e : szr left (cntSt s) = -1 := szr_no (by unfold cntSt; omega)
    rw [e]
    clear e
    go_enter Try.func50, Try.ntmps50
    go_wp2_with (first
      | (go_at_call 108; (with_reducible refine (szPacketS_c _ _ s.sent left (h11.fr S.frame) hl0 hl1).mono ?_); rintro e w9 ⟨rfl, f9⟩; rw [s1.out]; replace S := S.fr f9; clear f9)
      | ((with_reducible refine gate_box rfl ?_); refine aBx S ?_; clear S; intro g9 w9 z9 S) | ((with_reducible refine gate_load rfl ?_); first | refine aLd S ?_ | refine aPt S ?_ | refine aL1 S ?_))
    go_ret
    exact ⟨rfl, S.frame⟩
  have s1 := Lib.hid (szr_yes e1)
  by_cases e2 : (s.live.length : Int) ≤ left - s.sent.length
  case neg =>
    have s2 := Lib.hid (szr_no e2)
    have e : szr left (cntSt s) = -1 := szr_no (by unfold cntSt; omega)
    rw [e]
    clear e
    go_enter Try.func50, Try.ntmps50
    go_wp2_with (first
      | (go_at_call 108; (with_reducible refine (szPacketS_c _ _ s.sent left (h11.fr S.frame) hl0 hl1).mono ?_); rintro e w9 ⟨rfl, f9⟩; rw [s1.out]; replace S := S.fr f9; clear f9)
      | (go_at_call 109; (with_reducible refine (szBoolS_c _ _ s.live (left - s.sent.length) (h12.fr S.frame) (by omega) (by omega)).mono ?_); rintro e w9 ⟨rfl, f9⟩; rw [s2.out]; replace S := S.fr f9; clear f9)
      | ((with_reducible refine gate_box rfl ?_); refine aBx S ?_; clear S; intro g9 w9 z9 S) | ((with_reducible refine gate_load rfl ?_); first | refine aLd S ?_ | refine aPt S ?_ | refine aL1 S ?_))
    go_ret
    exact ⟨rfl, S.frame⟩
  have s2 := Lib.hid (szr_yes e2)
  by_cases e3 : (s.back.length : Int) ≤ left - s.sent.length - s.live.length
  case neg =>
    have s3 := Lib.hid (szr_no e3)
    have e : szr left (cntSt s) = -1 := szr_no (by unfold cntSt; omega)
    rw [e]
    clear e
    go_enter Try.func50, Try.ntmps50
    go_wp2_with (first
      | (go_at_call 108; (with_reducible refine (szPacketS_c _ _ s.sent left (h11.fr S.frame) hl0 hl1).mono ?_); rintro e w9 ⟨rfl, f9⟩; rw [s1.out]; replace S := S.fr f9; clear f9)
      | (go_at_call 109; (with_reducible refine (szBoolS_c _ _ s.live (left - s.sent.length) (h12.fr S.frame) (by omega) (by omega)).mono ?_); rintro e w9 ⟨rfl, f9⟩; rw [s2.out]; replace S := S.fr f9; clear f9)
      | (go_at_call 109; (with_reducible refine (szBoolS_c _ _ s.back (left - s.sent.length - s.live.length) (h13.fr S.frame) (by omega) (by omega)).mono ?_); rintro e w9 ⟨rfl, f9⟩; rw [s3.out]; replace S := S.fr f9; clear f9)
      | ((with_reducible refine gate_box rfl ?_); refine aBx S ?_; clear S; intro g9 w9 z9 S) | ((with_reducible refine gate_load rfl ?_); first | refine aLd S ?_ | refine aPt S ?_ | refine aL1 S ?_))
    go_ret
    exact ⟨rfl, S.frame⟩
  have s3 := Lib.hid (szr_yes e3)
  obtain ⟨r, hr⟩ : ∃ r, szr (left - s.sent.length - s.live.length - s.back.length) s.got.length = r := ⟨_, rfl⟩
  have e : szr left (cntSt s) = r := by
    rw [← hr]
    unfold szr cntSt
    split <;> split <;> omega
  rw [e]
  have hneg : r < 0 → r = -1 := by
    intro h
    rw [← hr] at h ⊢
    unfold szr at *
    split at h
    · omega
    · rename_i h2; rw [if_neg h2]
  have s4 := Lib.hid hr
  have HN := Lib.hid hneg
  clear e hr hneg
  go_enter Try.func50, Try.ntmps50
  go_wp2_with (first
    | (go_at_call 108; (with_reducible refine (szPacketS_c _ _ s.sent left (h11.fr S.frame) hl0 hl1).mono ?_); rintro e w9 ⟨rfl, f9⟩; rw [s1.out]; replace S := S.fr f9; clear f9)
    | (go_at_call 109; (with_reducible refine (szBoolS_c _ _ s.live (left - s.sent.length) (h12.fr S.frame) (by omega) (by omega)).mono ?_); rintro e w9 ⟨rfl, f9⟩; rw [s2.out]; replace S := S.fr f9; clear f9)
    | (go_at_call 109; (with_reducible refine (szBoolS_c _ _ s.back (left - s.sent.length - s.live.length) (h13.fr S.frame) (by omega) (by omega)).mono ?_); rintro e w9 ⟨rfl, f9⟩; rw [s3.out]; replace S := S.fr f9; clear f9)
    | (go_at_call 86; (with_reducible refine (szIntS_c _ _ s.got (left - s.sent.length - s.live.length - s.back.length) (h14.fr S.frame) (by omega) (by omega)).mono ?_); rintro e w9 ⟨rfl, f9⟩; rw [s4.out]; replace S := S.fr f9; clear f9)
    | ((with_reducible refine gate_box rfl ?_); refine aBx S ?_; clear S; intro g9 w9 z9 S) | ((with_reducible refine gate_load rfl ?_); first | refine aLd S ?_ | refine aPt S ?_ | refine aL1 S ?_))
  all_goals go_ret
  · exact ⟨ret_int (HN.out (by assumption)).symm, S.frame⟩
  · exact ⟨rfl, S.frame⟩
set_option maxHeartbeats 1600000 in
theorem heldState_c (w : World) (s : St) (c1 : List Value) (q : Int) (h1 : tSt.rd w (markSt q s) c1) (hb : Small s) (hq0 : 0 ≤ q) (hq1 : q ≤ 10000000000000000) :
    Calls Try.prog 45 #[.agg c1.toArray, .int .i64 q] w (Ret (.int .i64 (q + cntMSt s)) w) := by
  obtain ⟨v1, v2, v3, v4, rfl, h11, h12, h13, h14, h15⟩ := h1
  obtain ⟨b1, b2, b3, b4⟩ := hb
  have S := Sep.start w
  go_enter Try.func45, Try.ntmps45
  go_wp2_with (first
    | (go_at_call 100; (with_reducible refine (heldPacketS_c _ _ s.sent.length _ (h11.fr S.frame) b1 (by omega) (by omega)).mono ?_); rintro e w9 ⟨rfl, f9⟩; replace S := S.fr f9; clear f9)
    | (go_at_call 101; (with_reducible refine (heldBoolS_c _ _ s.live.length _ (h12.fr S.frame) b2 (by omega) (by omega)).mono ?_); rintro e w9 ⟨rfl, f9⟩; replace S := S.fr f9; clear f9)
    | (go_at_call 101; (with_reducible refine (heldBoolS_c _ _ s.back.length _ (h13.fr S.frame) b3 (by omega) (by omega)).mono ?_); rintro e w9 ⟨rfl, f9⟩; replace S := S.fr f9; clear f9)
    | (go_at_call 78; (with_reducible refine (heldIntS_c _ _ s.got.length _ (h14.fr S.frame) b4 (by omega) (by omega)).mono ?_); rintro e w9 ⟨rfl, f9⟩; replace S := S.fr f9; clear f9)
    | ((with_reducible refine gate_box rfl ?_); refine aBx S ?_; clear S; intro g9 w9 z9 S) | ((with_reducible refine gate_load rfl ?_); first | refine aLd S ?_ | refine aPt S ?_ | refine aL1 S ?_))
  go_ret
  exact ⟨ret_int (by unfold cntMSt; omega), S.frame⟩
set_option maxHeartbeats 1600000 in
theorem toState_c (w : World) (s : St) (c1 : List Value) (h1 : tSt.rd w s c1) (hb : cntSt s ≤ 1048576) : Calls Try.prog 52 #[.agg c1.toArray] w (RetOwn tSt s w) := by
  obtain ⟨v1, v2, v3, v4, rfl, h11, h12, h13, h14, h15⟩ := h1
  have b1 : s.sent.length ≤ 1048576 ∧ s.live.length ≤ 1048576 ∧ s.back.length ≤ 1048576 ∧ s.got.length ≤ 1048576 := by unfold cntSt at hb; omega
  obtain ⟨b1, b2, b3, b4⟩ := b1
  have S := Sep.start w
  go_enter Try.func52, Try.ntmps52
  go_wp2_with (first
    | (go_at_call 111; (with_reducible refine (toPacketS_c _ _ s.sent (h11.fr S.frame) b1).mono ?_); rintro e w9 ⟨v9, F9, rfl, h9, n9, b9, f9⟩; obtain ⟨A9, c9, rfl⟩ := h9.row.val; replace S := S.new (aRow tPk 88 _ (.slice A9 _ c9) F9) h9 n9 b9 f9; clear h9 n9 b9 f9)
    | (go_at_call 112; (with_reducible refine (toBoolS_c _ _ s.live (h12.fr S.frame) b2).mono ?_); rintro e w9 ⟨v9, F9, rfl, h9, n9, b9, f9⟩; obtain ⟨A9, c9, rfl⟩ := h9.row.val; replace S := S.new (aRow tBool 4 _ (.slice A9 _ c9) F9) h9 n9 b9 f9; clear h9 n9 b9 f9)
    | (go_at_call 112; (with_reducible refine (toBoolS_c _ _ s.back (h13.fr S.frame) b3).mono ?_); rintro e w9 ⟨v9, F9, rfl, h9, n9, b9, f9⟩; obtain ⟨A9, c9, rfl⟩ := h9.row.val; replace S := S.new (aRow tBool 4 _ (.slice A9 _ c9) F9) h9 n9 b9 f9; clear h9 n9 b9 f9)
    | (go_at_call 91; (with_reducible refine (toIntS_c _ _ s.got (h14.fr S.frame) b4).mono ?_); rintro e w9 ⟨v9, F9, rfl, h9, n9, b9, f9⟩; obtain ⟨A9, c9, rfl⟩ := h9.row.val; replace S := S.new (aRow tInt 3 _ (.slice A9 _ c9) F9) h9 n9 b9 f9; clear h9 n9 b9 f9)
    | ((with_reducible refine gate_box rfl ?_); refine aBx S ?_; clear S; intro g9 w9 z9 S) | ((with_reducible refine gate_alloc rfl ?_); refine aAl S ?_; clear S; intro g9 w9 z9 S) | ((with_reducible refine gate_load rfl ?_); first | refine aLd S ?_ | refine aPt S ?_ | refine aL1 S ?_) | ((with_reducible refine gate_st rfl ?_); (first | refine aS1 S ?_ | refine aSt S ?_ | refine aSp S ?_); clear S; intro w9 S))
  have S' := Sep.shutSt (x := s.way) (y := s.vsn) (z := s.want) (Sep.only4 (a1 := aRow tPk _ s.sent _ _) (a2 := aRow tBool _ s.live _ _) (a3 := aRow tBool _ s.back _ _) (a4 := aRow tInt _ s.got _ _) S delA delA delA delA) h15
  (refine Sep.ret1 S rfl rfl memA Try.underlying30 rfl ts30 rfl ?_)
  exact S'.retOwn List.mem_cons_self
set_option maxHeartbeats 1600000 in
theorem markState_c (w : World) (s : St) (cs : List Value) (F : List Nat) (q : Int) (h1 : tSt.own w s cs F) (hn : F.Nodup) (hq0 : 0 ≤ q) (hq1 : q ≤ 10000000000000000) :
    Calls Try.prog 44 #[.agg cs.toArray, .int .i64 q] w (RetMk tSt (q + cntMSt s) (markSt q s) cs F w) := by
  have S := Sep.startOwn h1 hn
  obtain ⟨A1, c1, A2, c2, A3, c3, A4, c4, F1, F2, F3, F4, rfl, rfl, hI, S⟩ := S.openSt
  have l1 := (S.row (d := tPk) (xs := s.sent) memA).le
  have l2 := (S.row (d := tBool) (xs := s.live) (F := F2) memA).le
  have l3 := (S.row (d := tBool) (xs := s.back) (F := F3) memA).le
  have l4 := (S.row (d := tInt) (xs := s.got) memA).le
  clear h1
  go_enter Try.func44, Try.ntmps44
  go_wp2_with (first
    | (go_at_call 98; (with_reducible refine (markPacketS_c _ (.slice A1 s.sent.length c1) s.sent F1 _ (S.row memA) (by omega) (by omega)).mono ?_); rintro e w9 ⟨rfl, h9, c9⟩; replace S := S.putRow putA h9 c9; clear h9 c9)
    | (go_at_call 99; (with_reducible refine (markBoolS_c _ (.slice A2 s.live.length c2) s.live F2 _ (S.row memA) (by omega) (by omega)).mono ?_); rintro e w9 ⟨rfl, h9, c9⟩; replace S := S.putRow putA h9 c9; clear h9 c9)
    | (go_at_call 99; (with_reducible refine (markBoolS_c _ (.slice A3 s.back.length c3) s.back F3 _ (S.row memA) (by omega) (by omega)).mono ?_); rintro e w9 ⟨rfl, h9, c9⟩; replace S := S.putRow putA h9 c9; clear h9 c9)
    | (go_at_call 75; (with_reducible refine (markIntS_c _ (.slice A4 s.got.length c4) s.got F4 _ (S.row memA) (by omega) (by omega)).mono ?_); rintro e w9 ⟨rfl, h9, c9⟩; replace S := S.putRow putA h9 c9; clear h9 c9)
    | ((with_reducible refine gate_box rfl ?_); refine aBx S ?_; clear S; intro g9 w9 z9 S) | ((with_reducible refine gate_load rfl ?_); first | refine aLd S ?_ | refine aPt S ?_ | refine aL1 S ?_))
  have S' := Sep.shutSt (x := s.way) (y := s.vsn) (z := s.want) (Sep.only4 (a1 := aRow tPk _ _ _ F1) (a2 := aRow tBool _ _ _ F2) (a3 := aRow tBool _ _ _ F3) (a4 := aRow tInt _ _ _ F4) S delA delA delA delA) hI
  go_ret
  exact ⟨ret_int (by unfold cntMSt; omega), S'.own List.mem_cons_self, S'.chg⟩
theorem markState_b (w : World) (s : St) (cs : List Value) (F : List Nat) (q : Int) (h : tSt.own w s cs F ∧ F.Nodup) (hq0 : 0 ≤ q) (hq1 : q ≤ 10000000000000000) :
    Calls Try.prog 44 #[.agg cs.toArray, .int .i64 q] w (RetMk tSt (q + cntMSt s) (markSt q s) cs F w) := markState_c w s cs F q h.1 h.2 hq0 hq1
end Go.Proofs.Ytapdcgjccckjeaa
namespace Go.Proofs.Ytapdcgjccckjeaa
set_option maxRecDepth 100000
set_option linter.unusedVariables false
set_option linter.unusedSimpArgs false
open Go.RowKit
/-! ## Parts, by permutation -/
section
variable {F0 : List Nat} {w0 w : World} {L : List Asrt} {a : Asrt}
theorem Sep.convP (S : Sep F0 w0 (a :: L) w) (bs : List Asrt) (hf : (fps bs).Perm a.fp) (h : ∀ b ∈ bs, b.ok w) : Sep F0 w0 (bs ++ L) w := by
  refine ⟨S.chg, fun b hb => ?_, fun b hb g hg => ?_, ?_⟩
  · rcases List.mem_append.1 hb with hb | hb
    · exact h b hb
    · exact S.ok b (List.mem_cons_of_mem _ hb)
  · rcases List.mem_append.1 hb with hb | hb
    · refine S.base a (by simp) g (hf.mem_iff.1 ?_)
      obtain ⟨A1, A2, rfl⟩ := List.append_of_mem hb
      simp [fps_append, fps, hg]
    · exact S.base b (List.mem_cons_of_mem _ hb) g hg
  · rw [fps_append]
    exact (List.Perm.append_right _ hf).nodup_iff.2 S.nd
theorem Sep.joinP (bs : List Asrt) (S : Sep F0 w0 (bs ++ L) w) (a : Asrt) (F : List Nat) (hp : F.Perm a.fp) (hs : F.Sublist (fps bs)) (h : (∀ b ∈ bs, b.ok w) → a.ok w) : Sep F0 w0 (a :: L) w := by
  refine ⟨S.chg, fun b hb => ?_, fun b hb g hg => ?_, ?_⟩
  · rcases List.mem_cons.1 hb with rfl | hb
    · exact h (fun b hb => S.ok b (by simp [hb]))
    · exact S.ok b (by simp [hb])
  · rcases List.mem_cons.1 hb with rfl | hb
    · obtain ⟨c, hc, hg⟩ := mem_fps (hs.subset (hp.mem_iff.2 hg))
      exact S.base c (by simp [hc]) g hg
    · exact S.base b (by simp [hb]) g hg
  · have := S.nd
    rw [fps_append] at this
    have h2 : (F ++ fps L).Nodup := (List.Sublist.append hs (List.Sublist.refl _)).nodup this
    exact (List.Perm.append_right _ hp).nodup_iff.1 h2
theorem Sep.one1 {F : List Nat} {W w1 : World} {a : Asrt} (c : Chg F W w1) (h : a.ok w1) (hb : ∀ g ∈ a.fp, g ∈ F ∨ W.heap.size ≤ g) (hn : a.fp.Nodup) : Sep F W [a] w1 := by
  refine ⟨c, ?_, ?_, by simpa [fps] using hn⟩
  · intro b hm
    rw [List.mem_singleton.1 hm]
    exact h
  · intro b hm
    rw [List.mem_singleton.1 hm]
    exact hb
end
/-! ## Cells of an element -/
theorem addr_add_add (ad : Addr) (i j : Nat) : (ad.add i).add j = ad.add (i + j) := by
  unfold Addr.add
  by_cases hi : i = 0 <;> by_cases hj : j = 0 <;> simp [hi, hj, Nat.add_assoc]
structure CellsAt (w : World) (ad : Addr) (cs : List Value) : Prop where
  cells : ∀ j, j < cs.length → w.cell? (ad.add j) = cs[j]?
theorem CellsAt.fr {w w' : World} {ad : Addr} {cs : List Value} (h : CellsAt w ad cs) (f : Fr w w') : CellsAt w' ad cs := ⟨fun j hj => by
  have h1 := h.cells j hj
  rw [List.getElem?_eq_getElem hj] at h1 ⊢
  exact f.cell h1⟩
theorem CellsAt.at_ {w : World} {ad : Addr} {cs : List Value} (h : CellsAt w ad cs) (j : Nat) {v : Value} (hv : cs[j]? = some v) : w.cell? (ad.add j) = some v := by
  rw [h.cells j (List.getElem?_eq_some_iff.1 hv).1, hv]
theorem cellsAt_of_row {α : Type} {d : Ty α} {w : World} {A : Option Addr} {n c : Nat} {xs : List α} (h : d.row w (.slice A n c) xs) (k : Nat) (hk : k < xs.length) : ∃ ad cs, A = some ad ∧ d.rd w xs[k] cs ∧ CellsAt w (ad.add (k * d.sz)) cs := by
  obtain ⟨A', c', e, h1, h2, h3⟩ := h
  obtain ⟨ad, cs, e1, hr, hc⟩ := h3 k hk
  cases e
  subst e1
  exact ⟨ad, cs, rfl, hr, ⟨fun j hj => by rw [addr_add_add, hc j hj, List.getElem?_eq_getElem hj]⟩⟩
section
variable {ops : Array Oper} {rest : List Oper} {o : Oper} {a : Act} {Q : Exit → Act → World → Prop} {W : World}
theorem run_rowld {ad : Addr} {cs : List Value} {ty n : Nat} {x : Operand} (hc : CellsAt W ad cs) (ho : o.op = .load ty x) (hi : TyInf ty true n) (hx : a.eval x = .pointer (some ad)) (hn : cs.length = n) : (execOp a.eval o).run Try.prog W = .ok (.value (.agg cs.toArray)) W := by
  obtain ⟨d, h1, h2⟩ := hi.u
  unfold execOp
  have := run_loadVar_cells (P := Try.prog) W ad n ty cs d hn (fun j hj => hc.cells j (by omega)) h1 (by cases d <;> exact h2) hi.s
  simp only [ho, hx, Instr.loadAt, Instr.sureAddr, Sem.run_bind, Sem.run_pure, Result.andThen_ok, this]
theorem run_celld {ad : Addr} {v : Value} {ty n : Nat} {x : Operand} (hc : W.cell? ad = some v) (ho : o.op = .load ty x) (hi : TyInf ty false n) (hx : a.eval x = .pointer (some ad)) : (execOp a.eval o).run Try.prog W = .ok (.value v) W := by
  obtain ⟨d, h1, h2⟩ := hi.u
  have hagg : (isAgg ty).run Try.prog W = .ok false W := by
    unfold isAgg
    rw [Sem.run_bind, run_underlying h1 W]
    cases d <;> simp_all
  unfold execOp
  simp [ho, hx, Instr.loadAt, Instr.sureAddr, Sem.run_bind, Sem.run_pure, Result.andThen_ok, loadVar, hagg, run_load, hc]
/-- A struct, or a value of one cell, loaded from where it is known to lie. -/
theorem aRw {ad : Addr} {cs : List Value} {ty n : Nat} {x : Operand} (hc : CellsAt W ad cs) (h : wpList Try.prog ops Q rest (a.put o.dst (.agg cs.toArray)) W) (hw : Region.wanted o (yielded ops a.tmps) = true := by exact rfl) (ho : o.op = .load ty x := by exact rfl) (hi : TyInf ty true n := by exact inferInstance) (hx : a.eval x = .pointer (some ad) := by exact rfl) (hn : cs.length = n := by first | exact rfl | assumption) : wpList Try.prog ops Q (o :: rest) a W := wpList_of_run hw (run_rowld hc ho hi hx hn) h
theorem aRc {ad : Addr} {v : Value} {ty n : Nat} {x : Operand} (hc : W.cell? ad = some v) (h : wpList Try.prog ops Q rest (a.put o.dst v) W) (hw : Region.wanted o (yielded ops a.tmps) = true := by exact rfl) (ho : o.op = .load ty x := by exact rfl) (hi : TyInf ty false n := by exact inferInstance) (hx : a.eval x = .pointer (some ad) := by exact rfl) : wpList Try.prog ops Q (o :: rest) a W := wpList_of_run hw (run_celld hc ho hi hx) h
theorem yRw {T : World → Prop} {ad : Addr} {cs : List Value} {ty n : Nat} {x : Operand} (hc : ∀ w, T w → CellsAt w ad cs) (hw : Region.wanted o (yielded ops a.tmps) = true := by exact rfl) (ho : o.op = .load ty x := by exact rfl) (hi : TyInf ty true n := by exact inferInstance) (hx : a.eval x = .pointer (some ad) := by exact rfl) (hn : cs.length = n := by first | exact rfl | assumption) : YieldsIf Try.prog ops T o (.agg cs.toArray) a := yields_of_run hw fun w hT => run_rowld (hc w hT) ho hi hx hn
theorem yRc {T : World → Prop} {ad : Addr} {v : Value} {ty n : Nat} {x : Operand} (hc : ∀ w, T w → w.cell? ad = some v) (hw : Region.wanted o (yielded ops a.tmps) = true := by exact rfl) (ho : o.op = .load ty x := by exact rfl) (hi : TyInf ty false n := by exact inferInstance) (hx : a.eval x = .pointer (some ad) := by exact rfl) : YieldsIf Try.prog ops T o v a := yields_of_run hw fun w hT => run_celld (hc w hT) ho hi hx
end
/-! ## Kinds that lead nowhere: what is read can be owned -/
def Ty.plain {α : Type} (d : Ty α) : Prop := ∀ {w : World} {x : α} {cs : List Value}, d.rd w x cs → ∀ w', d.own w' x cs []
theorem tInt_plain : tInt.plain := fun h _ => ⟨h, rfl⟩
theorem tBool_plain : tBool.plain := fun h _ => ⟨h, rfl⟩
theorem tPk_plain : tPk.plain := fun h _ => ⟨h, rfl⟩
theorem row_news {α : Type} {d : Ty α} (hp : d.plain) {w : World} {A : Option Addr} {n c : Nat} {ys : List α} (h : d.row w (.slice A n c) ys) :
    ∃ news : List Value, news.length = ys.length * d.sz ∧ (∀ ad, A = some ad → ∀ j u, news[j]? = some u → w.cell? (ad.add j) = some u) ∧ ∀ w', d.elems w' ys news [] := by
  have key : ∀ k, k ≤ ys.length → ∃ news : List Value, news.length = k * d.sz ∧ (∀ ad, A = some ad → ∀ j u, news[j]? = some u → w.cell? (ad.add j) = some u) ∧ ∀ w', d.elems w' (ys.take k) news [] := by
    intro k
    induction k with
    | zero => exact fun _ => ⟨[], by simp, (fun _ _ j u hj => by simp at hj), fun w' => by rw [List.take_zero]; exact ⟨rfl, rfl⟩⟩
    | succ k ih =>
      intro hk
      obtain ⟨news, hl, hc, he⟩ := ih (by omega)
      obtain ⟨ad, cs, e, hr, hcs⟩ := cellsAt_of_row h k (by omega)
      have hcl : cs.length = d.sz := d.len hr
      refine ⟨news ++ cs, by rw [List.length_append, hl, hcl, Nat.succ_mul], fun ad' e' j u hj => ?_, fun w' => ?_⟩
      · by_cases hjl : j < news.length
        · rw [List.getElem?_append_left hjl] at hj
          exact hc ad' e' j u hj
        · rw [List.getElem?_append_right (by omega)] at hj
          have := hcs.at_ _ hj
          rw [e] at e'
          cases e'
          rw [addr_add_add, hl] at this
          rw [show j = k * d.sz + (j - k * d.sz) from by omega]
          exact this
      · rw [List.take_succ_eq_append_getElem (by omega)]
        have := (he w').append (Ty.elems.single (hp hr w'))
        simpa using this
  have := key ys.length (Nat.le_refl _)
  rwa [List.take_length] at this
theorem row_some {α : Type} {d : Ty α} {w : World} {A : Option Addr} {n c : Nat} {ys : List α} (h : d.row w (.slice A n c) ys) (hn : 0 < ys.length) : ∃ ad, A = some ad := by
  obtain ⟨ad, _, e, _⟩ := cellsAt_of_row h 0 hn
  exact ⟨ad, e⟩
section
variable {α : Type} {d : Ty α} {ops : Array Oper} {rest : List Oper} {o : Oper} {a : Act} {Q : Exit → Act → World → Prop} {W w0 : World} {F0 : List Nat} {L L' : List Asrt}
/-- Appended to an own row: elements whose cells lie somewhere, and what they own (G2, out of the parts C). -/
theorem run_appg (C : List Asrt) {xs ys : List α} {v : Value} {F G2 : List Nat} {e : Nat} (S : Sep F0 w0 (aRow d e xs v F :: (C ++ L')) W) (s x : Operand) (t : TypeId) (hop : o.op = Op.call { callee := Callee.builtin Builtin.append, args := #[s, x], argTypes := #[t, t] }) (ht : TySlc t e) {z : Value} {m b : Nat} (hi : TyElem e z m b) (hzs : z.cells.size = m) (hm : m = d.sz) (hm0 : 0 < m) (hb : b ≤ 1000)
    (hs : a.eval s = v) (A : Option Addr) (c n : Nat) (hx : a.eval x = .slice A n c) (hn : ys.length = n) (news : List Value) (hnl : news.length = n * d.sz) (hA : A = none → c = 0) (hc : ∀ ad, A = some ad → ∀ j u, news[j]? = some u → W.cell? (ad.add j) = some u) (h1c : ∀ u ∈ news, u.oneCell' = true)
    (he2 : ∀ w', (∀ g ∈ G2, w'.heap[g]? = W.heap[g]?) → d.elems w' ys news G2) (hG : G2.Sublist (fps C)) (hpos : 0 < n ∨ ∃ g k cap, v = .slice (some ⟨g, 0, none⟩) k cap) (hA0 : 0 < n → ∃ ad, A = some ad) (hle : xs.length + n ≤ 2097152) :
    ∃ v' F' w1, Sep F0 w0 (aRow d e (xs ++ ys) v' F' :: L') w1 ∧ (execOp a.eval o).run Try.prog W = .ok (.value v') w1 := by
  subst hm
  subst hn
  obtain ⟨i, hi0, hz⟩ := Option.map_eq_some_iff.1 hi.h
  simp only [Prod.mk.injEq] at hz
  obtain ⟨hz0, hz1, hz2⟩ := hz
  have hnd := S.nd
  have ho := S.ok (aRow d e xs v F) List.mem_cons_self
  have hrow : d.row W v xs := Ty.orow.row ho
  have S' : Sep F0 w0 ((aRow d e xs v F :: C) ++ L') W := S
  have hlt2 : ∀ g ∈ G2, g < W.heap.size := fun g hg => by
    obtain ⟨c1, hc1, hg1⟩ := mem_fps (hG.subset hg)
    exact c1.lt (S.ok c1 (by simp [hc1])) g hg1
  obtain ⟨hl, inner, F2, hown, he, hF⟩ := ho
  have hlt1 : ∀ g ∈ F2, g < W.heap.size := he.lt
  have hA1 : fps (aRow d e xs v F :: C) = F ++ fps C := rfl
  have hnd1 : (F ++ fps C).Nodup := by
    have := hnd
    rw [show fps (aRow d e xs v F :: (C ++ L')) = F ++ fps (C ++ L') from rfl, fps_append, ← List.append_assoc] at this
    exact (List.nodup_append.1 this).1
  have hb2 : ∀ n : Nat, n ≤ 2097152 → n * b ≤ 140737488355328 := fun n hn => Nat.le_trans (Nat.mul_le_mul hn hb) (by decide)
  have el : ∀ w', (∀ g ∈ F2 ++ G2, w'.heap[g]? = W.heap[g]?) → d.elems w' (xs ++ ys) (inner ++ news) (F2 ++ G2) := fun w' hk =>
    (he.keep fun g hg => hk g (List.mem_append_left _ hg)).append (he2 w' fun g hg => hk g (List.mem_append_right _ hg))
  have grow : ∀ (v' : Value) (w' : World), w'.ownsRow W.heap.size e d.sz v' (xs.length + ys.length) (inner ++ news) → W.grownBy w' none → (execOp a.eval o).run Try.prog W = .ok (.value v') w' → ∃ v' F' w1, Sep F0 w0 (aRow d e (xs ++ ys) v' F' :: L') w1 ∧ (execOp a.eval o).run Try.prog W = .ok (.value v') w1 := by
    intro v' w' h9 hgr hrun
    have h8 : w'.ownsRow 0 e d.sz v' (xs ++ ys).length (inner ++ news) := by
      rw [List.length_append]
      exact ⟨h9.1, h9.2.imp id (fun ⟨g, cap, cur, h0, _, rest⟩ => ⟨g, cap, cur, h0, Nat.zero_le _, rest⟩)⟩
    have hob : ∀ q ∈ v'.ownBlock.toList, W.heap.size ≤ q := by
      intro q hq
      rcases h9.2 with ⟨h0, _⟩ | ⟨g', cap', cur, h0, hlo, _⟩
      · rw [h0] at hq; simp [Value.ownBlock] at hq
      · rw [h0] at hq
        simp [Value.ownBlock] at hq
        omega
    have ho' : d.orow e w' v' (xs ++ ys) (v'.ownBlock.toList ++ (F2 ++ G2)) := Ty.orow.mk (by simpa using hle) h8 (el w' fun g hg => hgr.block g (by rcases List.mem_append.1 hg with h | h; exact hlt1 g h; exact hlt2 g h) (by simp))
    refine ⟨v', _, w', Sep.call (aRow d e xs v F :: C) S' (Sep.one1 (a := aRow d e (xs ++ ys) v' (v'.ownBlock.toList ++ (F2 ++ G2))) ⟨hgr.os, hgr.tape, hgr.output, hgr.size, fun k hk _ => hgr.block k hk (by simp)⟩ ho' ?_ ?_), hrun⟩
    · intro q hq
      rcases List.mem_append.1 hq with hq | hq
      · exact .inr (hob q hq)
      · left
        rw [hA1, hF]
        rcases List.mem_append.1 hq with hq | hq
        · simp [hq]
        · exact List.mem_append_right _ (hG.subset hq)
    · refine List.nodup_append.2 ⟨by cases v'.ownBlock <;> simp, ?_, fun x hx y hy exy => ?_⟩
      · refine List.Sublist.nodup (List.Sublist.append ?_ hG) hnd1
        rw [hF]
        exact List.sublist_append_right _ _
      · have h1 := hob x hx
        have h2 : y < W.heap.size := by rcases List.mem_append.1 hy with h | h; exact hlt1 y h; exact hlt2 y h
        omega
  have fits : ∀ (g k cap : Nat) (w' : World), v = .slice (some ⟨g, 0, none⟩) k cap → w'.ownsRow 0 e d.sz (.slice (some ⟨g, 0, none⟩) (xs.length + ys.length) cap) (xs.length + ys.length) (inner ++ news) → W.grownBy w' (some g) → (execOp a.eval o).run Try.prog W = .ok (.value (.slice (some ⟨g, 0, none⟩) (xs.length + ys.length) cap)) w' → ∃ v' F' w1, Sep F0 w0 (aRow d e (xs ++ ys) v' F' :: L') w1 ∧ (execOp a.eval o).run Try.prog W = .ok (.value v') w1 := by
    intro g k cap w' hv h9 hgr hrun
    have hob : v.ownBlock = some g := by rw [hv]; rfl
    rw [hob] at hF
    rw [hF] at hnd1
    have hgn : ∀ q ∈ F2 ++ G2, q ≠ g := by
      intro q hq e0
      subst e0
      have h1 : q ∉ F2 ++ fps C := by
        have : ([q] ++ (F2 ++ fps C)).Nodup := by simpa using hnd1
        exact (List.nodup_cons.1 this).1
      rcases List.mem_append.1 hq with h | h
      · exact h1 (List.mem_append_left _ h)
      · exact h1 (List.mem_append_right _ (hG.subset h))
    rw [← List.length_append] at h9
    have ho' : d.orow e w' (.slice (some ⟨g, 0, none⟩) (xs.length + ys.length) cap) (xs ++ ys) ([g] ++ (F2 ++ G2)) := by
      have h9' : w'.ownsRow 0 e d.sz (.slice (some ⟨g, 0, none⟩) (xs.length + ys.length) cap) (xs ++ ys).length (inner ++ news) := by rw [List.length_append] at h9 ⊢; exact h9
      exact Ty.orow.mk (by simpa using hle) h9' (el w' fun q hq => hgr.block q (by rcases List.mem_append.1 hq with h | h; exact hlt1 q h; exact hlt2 q h) (fun e0 => hgn q hq (by cases e0; rfl)))
    refine ⟨_, _, w', Sep.call (aRow d e xs v F :: C) S' (Sep.one1 (a := aRow d e (xs ++ ys) _ ([g] ++ (F2 ++ G2))) ⟨hgr.os, hgr.tape, hgr.output, hgr.size, fun q hq hn => hgr.block q hq (fun e0 => hn (by cases e0; rw [hA1, hF]; simp))⟩ ho' ?_ ?_), hrun⟩
    · intro q hq
      left
      rw [hA1, hF]
      rcases List.mem_append.1 hq with hq | hq
      · simp at hq ⊢; exact .inl hq
      · rcases List.mem_append.1 hq with hq | hq
        · simp [hq]
        · exact List.mem_append_right _ (hG.subset hq)
    · show ([g] ++ (F2 ++ G2)).Nodup
      refine List.Sublist.nodup ?_ hnd1
      rw [← List.append_assoc]
      exact List.Sublist.append (List.Sublist.refl _) hG
  rcases hown.2 with ⟨hv, hn0⟩ | ⟨g, cap, cur, hv, hr⟩
  · have hx0 : xs = [] := List.eq_nil_of_length_eq_zero hn0
    subst hx0
    obtain ⟨rfl, rfl⟩ : inner = [] ∧ F2 = [] := he
    have hpos' : 0 < ys.length := by
      rcases hpos with h | ⟨g, k, cap, h⟩
      · exact h
      · rw [hv] at h; cases h
    obtain ⟨ad, rfl⟩ := hA0 hpos'
    obtain ⟨v', w', hrun, r1, r2, _⟩ := run_append_own (P := Try.prog) W W.heap.size t o.type e i z d.sz b ht.u hi0 hz0 hz1 hz2 hzs hm0 (.slice none 0 0) 0 [] (World.ownsRow_nil W _ e d.sz) ad ys.length c news hnl (hc ad rfl) h1c (by simp only [maxLen]; simp at hle; omega) (by simp at hle; simpa using hb2 _ hle) (Nat.le_refl _)
    exact grow v' w' (by simpa using r1) r2 (by simp [execOp, hop, resolve, invoke, builtin, hs, hv, hx, hrun, Result.andThen])
  · subst hv
    have hA2 : A = none → ys.length = 0 := fun h => by
      rcases Nat.eq_zero_or_pos ys.length with h0 | h0
      · exact h0
      · obtain ⟨ad, h1⟩ := hA0 h0
        rw [h] at h1
        cases h1
    by_cases hroom : xs.length + ys.length ≤ cap
    · cases hAc : A with
      | some ad =>
        obtain ⟨w', hrun, r1, r2⟩ := run_append_fits (P := Try.prog) W 0 t o.type e i d.sz ht.u hi0 hz1 g xs.length cap inner hown ad ys.length c news hnl (hc ad hAc) h1c hroom
        exact fits g _ cap w' rfl r1 r2 (by simp [execOp, hop, resolve, invoke, builtin, hs, hx, hAc, hrun, Result.andThen])
      | none =>
        have h0 := hA2 hAc
        have hnews : news = [] := List.eq_nil_of_length_eq_zero (by rw [hnl, h0]; simp)
        have hc0 := hA hAc
        have hrun := run_append_owned_none (P := Try.prog) W 0 t o.type e i d.sz ht.u hi0 _ xs.length inner hown
        exact fits g _ cap W rfl (by rw [h0, hnews]; simpa using hown) (World.grownBy.refl W _) (by simp [execOp, hop, resolve, invoke, builtin, hs, hx, hAc, h0, hc0, hrun, Result.andThen])
    · obtain ⟨_, hcap, _⟩ := hr.2
      obtain ⟨ad, rfl⟩ := hA0 (by omega)
      obtain ⟨v', w', hrun, r1, r2⟩ := run_append_arg_grows (P := Try.prog) W t o.type e i z d.sz b ht.u hi0 hz0 hz1 hz2 hzs hm0 ⟨g, 0, none⟩ xs.length cap inner he.len (fun j u hj => hown.cells (g := g) rfl j u hj) ad ys.length c news hnl (hc ad rfl) (by omega) (by simp only [maxLen]; omega) (hb2 _ hle)
      exact grow v' w' r1 r2 (by simp [execOp, hop, resolve, invoke, builtin, hs, hx, hrun, Result.andThen])
end
end Go.Proofs.Ytapdcgjccckjeaa
