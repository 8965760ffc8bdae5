/- Sizes and zero values of the types that the walks meet; short arms over them. -/
import Derived.Test.YtapdcgjccckjeaaProg
import Derived.Test.YtapdcgjccckjeaaSep2
import Derived.KernelRfl
namespace Go.Proofs.Ytapdcgjccckjeaa
set_option maxRecDepth 100000
set_option linter.unusedVariables false
set_option linter.unusedSimpArgs false
open Go.RowKit
theorem ts26 : (Try.prog.info? 26).map (·.size) = some 3 := by kernel_rfl
theorem tz26 (w : World) : (zeroValue 26).run Try.prog w = .ok (.agg #[.slice none 0 0, .slice none 0 0, .int .i64 0]) w := by kernel_rfl
theorem ts52 : (Try.prog.info? 52).map (·.size) = some 3 := by kernel_rfl
theorem tz52 (w : World) : (zeroValue 52).run Try.prog w = .ok (.agg #[.slice none 0 0, .slice none 0 0, .int .i64 0]) w := by kernel_rfl
theorem ts88 : (Try.prog.info? 88).map (·.size) = some 7 := by kernel_rfl
theorem tz88 (w : World) : (zeroValue 88).run Try.prog w = .ok (.agg #[.int .i64 0, .int .i64 0, .int .i64 0, .int .i64 0, .int .i64 0, .int .i64 0, .int .i64 0]) w := by kernel_rfl
theorem ts86 : (Try.prog.info? 86).map (·.size) = some 7 := by kernel_rfl
theorem tz86 (w : World) : (zeroValue 86).run Try.prog w = .ok (.agg #[.int .i64 0, .int .i64 0, .int .i64 0, .int .i64 0, .int .i64 0, .int .i64 0, .int .i64 0]) w := by kernel_rfl
theorem ts30 : (Try.prog.info? 30).map (·.size) = some 7 := by kernel_rfl
theorem tz30 (w : World) : (zeroValue 30).run Try.prog w = .ok (.agg #[.int .i64 0, .int .i64 0, .int .i64 0, .slice none 0 0, .slice none 0 0, .slice none 0 0, .slice none 0 0]) w := by kernel_rfl
theorem ts55 : (Try.prog.info? 55).map (·.size) = some 7 := by kernel_rfl
theorem tz55 (w : World) : (zeroValue 55).run Try.prog w = .ok (.agg #[.int .i64 0, .int .i64 0, .int .i64 0, .slice none 0 0, .slice none 0 0, .slice none 0 0, .slice none 0 0]) w := by kernel_rfl
theorem ts33 : (Try.prog.info? 33).map (·.size) = some 13 := by kernel_rfl
theorem tz33 (w : World) : (zeroValue 33).run Try.prog w = .ok (.agg #[.int .i64 0, .slice none 0 0, .slice none 0 0, .int .i64 0, .int .i64 0, .int .i64 0, .int .i64 0, .slice none 0 0, .slice none 0 0, .slice none 0 0, .slice none 0 0, .slice none 0 0, .slice none 0 0]) w := by kernel_rfl
theorem ts58 : (Try.prog.info? 58).map (·.size) = some 13 := by kernel_rfl
theorem tz58 (w : World) : (zeroValue 58).run Try.prog w = .ok (.agg #[.int .i64 0, .slice none 0 0, .slice none 0 0, .int .i64 0, .int .i64 0, .int .i64 0, .int .i64 0, .slice none 0 0, .slice none 0 0, .slice none 0 0, .slice none 0 0, .slice none 0 0, .slice none 0 0]) w := by kernel_rfl
theorem ts47 : (Try.prog.info? 47).map (·.size) = some 1 := by kernel_rfl
theorem tz47 (w : World) : (zeroValue 47).run Try.prog w = .ok (.agg #[.slice none 0 0]) w := by kernel_rfl
theorem ts66 : (Try.prog.info? 66).map (·.size) = some 1 := by kernel_rfl
theorem tz66 (w : World) : (zeroValue 66).run Try.prog w = .ok (.agg #[.slice none 0 0]) w := by kernel_rfl
theorem ts133 : (Try.prog.info? 133).map (·.size) = some 2 := by kernel_rfl
theorem tz133 (w : World) : (zeroValue 133).run Try.prog w = .ok (.agg #[.slice none 0 0, .int .i64 0]) w := by kernel_rfl
theorem ts138 : (Try.prog.info? 138).map (·.size) = some 8 := by kernel_rfl
theorem tz138 (w : World) : (zeroValue 138).run Try.prog w = .ok (.agg #[.int .i64 0, .int .i64 0, .int .i64 0, .slice none 0 0, .slice none 0 0, .slice none 0 0, .slice none 0 0, .pointer none]) w := by kernel_rfl
theorem ts136 : (Try.prog.info? 136).map (·.size) = some 14 := by kernel_rfl
theorem tz136 (w : World) : (zeroValue 136).run Try.prog w = .ok (.agg #[.slice none 0 0, .slice none 0 0, .int .i64 0, .int .i64 0, .int .i64 0, .int .i64 0, .int .i64 0, .slice none 0 0, .slice none 0 0, .slice none 0 0, .slice none 0 0, .pointer none, .int .i64 0, .slice none 0 0]) w := by kernel_rfl
theorem ts142 : (Try.prog.info? 142).map (·.size) = some 2 := by kernel_rfl
theorem tz142 (w : World) : (zeroValue 142).run Try.prog w = .ok (.agg #[.pointer none, .pointer none]) w := by kernel_rfl
theorem ts140 : (Try.prog.info? 140).map (·.size) = some 2 := by kernel_rfl
theorem tz140 (w : World) : (zeroValue 140).run Try.prog w = .ok (.agg #[.pointer none, .pointer none]) w := by kernel_rfl
theorem ts129 : (Try.prog.info? 129).map (·.size) = some 8 := by kernel_rfl
theorem tz129 (w : World) : (zeroValue 129).run Try.prog w = .ok (.agg #[.int .i64 0, .int .i64 0, .int .i64 0, .slice none 0 0, .slice none 0 0, .slice none 0 0, .slice none 0 0, .int .i64 0]) w := by kernel_rfl
theorem ts3 : (Try.prog.info? 3).map (·.size) = some 1 := by kernel_rfl
theorem tz3 (w : World) : (zeroValue 3).run Try.prog w = .ok (.int .i64 0) w := by kernel_rfl
theorem ts4 : (Try.prog.info? 4).map (·.size) = some 1 := by kernel_rfl
theorem tz4 (w : World) : (zeroValue 4).run Try.prog w = .ok (.bool false) w := by kernel_rfl
theorem ts24 : (Try.prog.info? 24).map (·.size) = some 1 := by kernel_rfl
theorem tz24 (w : World) : (zeroValue 24).run Try.prog w = .ok (.slice none 0 0) w := by kernel_rfl
theorem ts28 : (Try.prog.info? 28).map (·.size) = some 1 := by kernel_rfl
theorem tz28 (w : World) : (zeroValue 28).run Try.prog w = .ok (.slice none 0 0) w := by kernel_rfl
theorem ts27 : (Try.prog.info? 27).map (·.size) = some 1 := by kernel_rfl
theorem tz27 (w : World) : (zeroValue 27).run Try.prog w = .ok (.slice none 0 0) w := by kernel_rfl
theorem ts53 : (Try.prog.info? 53).map (·.size) = some 1 := by kernel_rfl
theorem tz53 (w : World) : (zeroValue 53).run Try.prog w = .ok (.slice none 0 0) w := by kernel_rfl
theorem ts31 : (Try.prog.info? 31).map (·.size) = some 1 := by kernel_rfl
theorem tz31 (w : World) : (zeroValue 31).run Try.prog w = .ok (.slice none 0 0) w := by kernel_rfl
theorem ts56 : (Try.prog.info? 56).map (·.size) = some 1 := by kernel_rfl
theorem tz56 (w : World) : (zeroValue 56).run Try.prog w = .ok (.slice none 0 0) w := by kernel_rfl
theorem ts45 : (Try.prog.info? 45).map (·.size) = some 1 := by kernel_rfl
theorem tz45 (w : World) : (zeroValue 45).run Try.prog w = .ok (.slice none 0 0) w := by kernel_rfl
theorem ts64 : (Try.prog.info? 64).map (·.size) = some 1 := by kernel_rfl
theorem tz64 (w : World) : (zeroValue 64).run Try.prog w = .ok (.slice none 0 0) w := by kernel_rfl
theorem ts22 : (Try.prog.info? 22).map (·.size) = some 1 := by kernel_rfl
theorem tz22 (w : World) : (zeroValue 22).run Try.prog w = .ok (.slice none 0 0) w := by kernel_rfl
theorem ts95 : (Try.prog.info? 95).map (·.size) = some 1 := by kernel_rfl
theorem tz95 (w : World) : (zeroValue 95).run Try.prog w = .ok (.pointer none) w := by kernel_rfl
theorem ts134 : (Try.prog.info? 134).map (·.size) = some 1 := by kernel_rfl
theorem tz134 (w : World) : (zeroValue 134).run Try.prog w = .ok (.pointer none) w := by kernel_rfl
theorem ts106 : (Try.prog.info? 106).map (·.size) = some 1 := by kernel_rfl
theorem tz106 (w : World) : (zeroValue 106).run Try.prog w = .ok (.pointer none) w := by kernel_rfl
theorem ts151 : (Try.prog.info? 151).map (·.size) = some 1 := by kernel_rfl
theorem tz151 (w : World) : (zeroValue 151).run Try.prog w = .ok (.pointer none) w := by kernel_rfl
theorem ts91 : (Try.prog.info? 91).map (·.size) = some 1 := by kernel_rfl
theorem tz91 (w : World) : (zeroValue 91).run Try.prog w = .ok (.pointer none) w := by kernel_rfl
theorem ts5 : (Try.prog.info? 5).map (·.size) = some 1 := by kernel_rfl
theorem tz5 (w : World) : (zeroValue 5).run Try.prog w = .ok (.int .u8 0) w := by kernel_rfl
/-! ## Short arms: what the walks ask of types, boxes, loads and stores, found by itself -/
/-- A type's size, and whether it is a struct (or an array). -/
class TyInf (ty : Nat) (b : outParam Bool) (m : outParam Nat) : Prop where
  u : ∃ d, Try.prog.underlying ty = some d ∧ (match d with | .struct _ | .array _ _ => true | _ => false) = b
  s : (Try.prog.info? ty).map (·.size) = some m
/-- A type's zero value. -/
class TyZero (ty : Nat) (cs : outParam (List Value)) : Prop where
  z : ∀ w, ∃ z, (zeroValue ty).run Try.prog w = .ok z w ∧ z.cells = cs.toArray
/-- What 'make' and 'append' ask of an element's type; and which type's slices a type is. -/
class TyElem (e : Nat) (z : outParam Value) (m b : outParam Nat) : Prop where
  h : (Try.prog.info? e).map (fun i => (i.zero, i.size, i.bytes)) = some (some z, m, b)
class TySlc (t : Nat) (e : outParam Nat) : Prop where
  u : Try.prog.underlying t = some (.slice e)
instance : TyInf 26 true 3 := ⟨⟨_, Try.underlying26, rfl⟩, ts26⟩
instance : TyZero 26 [.slice none 0 0, .slice none 0 0, .int .i64 0] := ⟨fun w => ⟨_, tz26 w, rfl⟩⟩
theorem ti26 : (Try.prog.info? 26).map (fun i => (i.zero, i.size, i.bytes)) = some (some (.agg #[.slice none 0 0, .slice none 0 0, .int .i64 0]), 3, 56) := by kernel_rfl
instance : TyElem 26 (.agg #[.slice none 0 0, .slice none 0 0, .int .i64 0]) 3 56 := ⟨ti26⟩
instance : TyInf 52 true 3 := ⟨⟨_, Try.underlying52, rfl⟩, ts52⟩
instance : TyZero 52 [.slice none 0 0, .slice none 0 0, .int .i64 0] := ⟨fun w => ⟨_, tz52 w, rfl⟩⟩
theorem ti52 : (Try.prog.info? 52).map (fun i => (i.zero, i.size, i.bytes)) = some (some (.agg #[.slice none 0 0, .slice none 0 0, .int .i64 0]), 3, 56) := by kernel_rfl
instance : TyElem 52 (.agg #[.slice none 0 0, .slice none 0 0, .int .i64 0]) 3 56 := ⟨ti52⟩
instance : TyInf 88 true 7 := ⟨⟨_, Try.underlying88, rfl⟩, ts88⟩
instance : TyZero 88 [.int .i64 0, .int .i64 0, .int .i64 0, .int .i64 0, .int .i64 0, .int .i64 0, .int .i64 0] := ⟨fun w => ⟨_, tz88 w, rfl⟩⟩
theorem ti88 : (Try.prog.info? 88).map (fun i => (i.zero, i.size, i.bytes)) = some (some (.agg #[.int .i64 0, .int .i64 0, .int .i64 0, .int .i64 0, .int .i64 0, .int .i64 0, .int .i64 0]), 7, 56) := by kernel_rfl
instance : TyElem 88 (.agg #[.int .i64 0, .int .i64 0, .int .i64 0, .int .i64 0, .int .i64 0, .int .i64 0, .int .i64 0]) 7 56 := ⟨ti88⟩
instance : TyInf 86 true 7 := ⟨⟨_, Try.underlying86, rfl⟩, ts86⟩
instance : TyZero 86 [.int .i64 0, .int .i64 0, .int .i64 0, .int .i64 0, .int .i64 0, .int .i64 0, .int .i64 0] := ⟨fun w => ⟨_, tz86 w, rfl⟩⟩
theorem ti86 : (Try.prog.info? 86).map (fun i => (i.zero, i.size, i.bytes)) = some (some (.agg #[.int .i64 0, .int .i64 0, .int .i64 0, .int .i64 0, .int .i64 0, .int .i64 0, .int .i64 0]), 7, 56) := by kernel_rfl
instance : TyElem 86 (.agg #[.int .i64 0, .int .i64 0, .int .i64 0, .int .i64 0, .int .i64 0, .int .i64 0, .int .i64 0]) 7 56 := ⟨ti86⟩
instance : TyInf 30 true 7 := ⟨⟨_, Try.underlying30, rfl⟩, ts30⟩
instance : TyZero 30 [.int .i64 0, .int .i64 0, .int .i64 0, .slice none 0 0, .slice none 0 0, .slice none 0 0, .slice none 0 0] := ⟨fun w => ⟨_, tz30 w, rfl⟩⟩
theorem ti30 : (Try.prog.info? 30).map (fun i => (i.zero, i.size, i.bytes)) = some (some (.agg #[.int .i64 0, .int .i64 0, .int .i64 0, .slice none 0 0, .slice none 0 0, .slice none 0 0, .slice none 0 0]), 7, 120) := by kernel_rfl
instance : TyElem 30 (.agg #[.int .i64 0, .int .i64 0, .int .i64 0, .slice none 0 0, .slice none 0 0, .slice none 0 0, .slice none 0 0]) 7 120 := ⟨ti30⟩
instance : TyInf 55 true 7 := ⟨⟨_, Try.underlying55, rfl⟩, ts55⟩
instance : TyZero 55 [.int .i64 0, .int .i64 0, .int .i64 0, .slice none 0 0, .slice none 0 0, .slice none 0 0, .slice none 0 0] := ⟨fun w => ⟨_, tz55 w, rfl⟩⟩
theorem ti55 : (Try.prog.info? 55).map (fun i => (i.zero, i.size, i.bytes)) = some (some (.agg #[.int .i64 0, .int .i64 0, .int .i64 0, .slice none 0 0, .slice none 0 0, .slice none 0 0, .slice none 0 0]), 7, 120) := by kernel_rfl
instance : TyElem 55 (.agg #[.int .i64 0, .int .i64 0, .int .i64 0, .slice none 0 0, .slice none 0 0, .slice none 0 0, .slice none 0 0]) 7 120 := ⟨ti55⟩
instance : TyInf 33 true 13 := ⟨⟨_, Try.underlying33, rfl⟩, ts33⟩
instance : TyZero 33 [.int .i64 0, .slice none 0 0, .slice none 0 0, .int .i64 0, .int .i64 0, .int .i64 0, .int .i64 0, .slice none 0 0, .slice none 0 0, .slice none 0 0, .slice none 0 0, .slice none 0 0, .slice none 0 0] := ⟨fun w => ⟨_, tz33 w, rfl⟩⟩
theorem ti33 : (Try.prog.info? 33).map (fun i => (i.zero, i.size, i.bytes)) = some (some (.agg #[.int .i64 0, .slice none 0 0, .slice none 0 0, .int .i64 0, .int .i64 0, .int .i64 0, .int .i64 0, .slice none 0 0, .slice none 0 0, .slice none 0 0, .slice none 0 0, .slice none 0 0, .slice none 0 0]), 13, 232) := by kernel_rfl
instance : TyElem 33 (.agg #[.int .i64 0, .slice none 0 0, .slice none 0 0, .int .i64 0, .int .i64 0, .int .i64 0, .int .i64 0, .slice none 0 0, .slice none 0 0, .slice none 0 0, .slice none 0 0, .slice none 0 0, .slice none 0 0]) 13 232 := ⟨ti33⟩
instance : TyInf 58 true 13 := ⟨⟨_, Try.underlying58, rfl⟩, ts58⟩
instance : TyZero 58 [.int .i64 0, .slice none 0 0, .slice none 0 0, .int .i64 0, .int .i64 0, .int .i64 0, .int .i64 0, .slice none 0 0, .slice none 0 0, .slice none 0 0, .slice none 0 0, .slice none 0 0, .slice none 0 0] := ⟨fun w => ⟨_, tz58 w, rfl⟩⟩
theorem ti58 : (Try.prog.info? 58).map (fun i => (i.zero, i.size, i.bytes)) = some (some (.agg #[.int .i64 0, .slice none 0 0, .slice none 0 0, .int .i64 0, .int .i64 0, .int .i64 0, .int .i64 0, .slice none 0 0, .slice none 0 0, .slice none 0 0, .slice none 0 0, .slice none 0 0, .slice none 0 0]), 13, 232) := by kernel_rfl
instance : TyElem 58 (.agg #[.int .i64 0, .slice none 0 0, .slice none 0 0, .int .i64 0, .int .i64 0, .int .i64 0, .int .i64 0, .slice none 0 0, .slice none 0 0, .slice none 0 0, .slice none 0 0, .slice none 0 0, .slice none 0 0]) 13 232 := ⟨ti58⟩
instance : TyInf 47 true 1 := ⟨⟨_, Try.underlying47, rfl⟩, ts47⟩
instance : TyZero 47 [.slice none 0 0] := ⟨fun w => ⟨_, tz47 w, rfl⟩⟩
theorem ti47 : (Try.prog.info? 47).map (fun i => (i.zero, i.size, i.bytes)) = some (some (.agg #[.slice none 0 0]), 1, 24) := by kernel_rfl
instance : TyElem 47 (.agg #[.slice none 0 0]) 1 24 := ⟨ti47⟩
instance : TyInf 66 true 1 := ⟨⟨_, Try.underlying66, rfl⟩, ts66⟩
instance : TyZero 66 [.slice none 0 0] := ⟨fun w => ⟨_, tz66 w, rfl⟩⟩
theorem ti66 : (Try.prog.info? 66).map (fun i => (i.zero, i.size, i.bytes)) = some (some (.agg #[.slice none 0 0]), 1, 24) := by kernel_rfl
instance : TyElem 66 (.agg #[.slice none 0 0]) 1 24 := ⟨ti66⟩
instance : TyInf 133 true 2 := ⟨⟨_, Try.underlying133, rfl⟩, ts133⟩
instance : TyZero 133 [.slice none 0 0, .int .i64 0] := ⟨fun w => ⟨_, tz133 w, rfl⟩⟩
theorem ti133 : (Try.prog.info? 133).map (fun i => (i.zero, i.size, i.bytes)) = some (some (.agg #[.slice none 0 0, .int .i64 0]), 2, 32) := by kernel_rfl
instance : TyElem 133 (.agg #[.slice none 0 0, .int .i64 0]) 2 32 := ⟨ti133⟩
instance : TyInf 138 true 8 := ⟨⟨_, Try.underlying138, rfl⟩, ts138⟩
instance : TyZero 138 [.int .i64 0, .int .i64 0, .int .i64 0, .slice none 0 0, .slice none 0 0, .slice none 0 0, .slice none 0 0, .pointer none] := ⟨fun w => ⟨_, tz138 w, rfl⟩⟩
theorem ti138 : (Try.prog.info? 138).map (fun i => (i.zero, i.size, i.bytes)) = some (some (.agg #[.int .i64 0, .int .i64 0, .int .i64 0, .slice none 0 0, .slice none 0 0, .slice none 0 0, .slice none 0 0, .pointer none]), 8, 128) := by kernel_rfl
instance : TyElem 138 (.agg #[.int .i64 0, .int .i64 0, .int .i64 0, .slice none 0 0, .slice none 0 0, .slice none 0 0, .slice none 0 0, .pointer none]) 8 128 := ⟨ti138⟩
instance : TyInf 136 true 14 := ⟨⟨_, Try.underlying136, rfl⟩, ts136⟩
instance : TyZero 136 [.slice none 0 0, .slice none 0 0, .int .i64 0, .int .i64 0, .int .i64 0, .int .i64 0, .int .i64 0, .slice none 0 0, .slice none 0 0, .slice none 0 0, .slice none 0 0, .pointer none, .int .i64 0, .slice none 0 0] := ⟨fun w => ⟨_, tz136 w, rfl⟩⟩
theorem ti136 : (Try.prog.info? 136).map (fun i => (i.zero, i.size, i.bytes)) = some (some (.agg #[.slice none 0 0, .slice none 0 0, .int .i64 0, .int .i64 0, .int .i64 0, .int .i64 0, .int .i64 0, .slice none 0 0, .slice none 0 0, .slice none 0 0, .slice none 0 0, .pointer none, .int .i64 0, .slice none 0 0]), 14, 224) := by kernel_rfl
instance : TyElem 136 (.agg #[.slice none 0 0, .slice none 0 0, .int .i64 0, .int .i64 0, .int .i64 0, .int .i64 0, .int .i64 0, .slice none 0 0, .slice none 0 0, .slice none 0 0, .slice none 0 0, .pointer none, .int .i64 0, .slice none 0 0]) 14 224 := ⟨ti136⟩
instance : TyInf 142 true 2 := ⟨⟨_, Try.underlying142, rfl⟩, ts142⟩
instance : TyZero 142 [.pointer none, .pointer none] := ⟨fun w => ⟨_, tz142 w, rfl⟩⟩
theorem ti142 : (Try.prog.info? 142).map (fun i => (i.zero, i.size, i.bytes)) = some (some (.agg #[.pointer none, .pointer none]), 2, 16) := by kernel_rfl
instance : TyElem 142 (.agg #[.pointer none, .pointer none]) 2 16 := ⟨ti142⟩
instance : TyInf 140 true 2 := ⟨⟨_, Try.underlying140, rfl⟩, ts140⟩
instance : TyZero 140 [.pointer none, .pointer none] := ⟨fun w => ⟨_, tz140 w, rfl⟩⟩
theorem ti140 : (Try.prog.info? 140).map (fun i => (i.zero, i.size, i.bytes)) = some (some (.agg #[.pointer none, .pointer none]), 2, 16) := by kernel_rfl
instance : TyElem 140 (.agg #[.pointer none, .pointer none]) 2 16 := ⟨ti140⟩
instance : TyInf 129 true 8 := ⟨⟨_, Try.underlying129, rfl⟩, ts129⟩
instance : TyZero 129 [.int .i64 0, .int .i64 0, .int .i64 0, .slice none 0 0, .slice none 0 0, .slice none 0 0, .slice none 0 0, .int .i64 0] := ⟨fun w => ⟨_, tz129 w, rfl⟩⟩
theorem ti129 : (Try.prog.info? 129).map (fun i => (i.zero, i.size, i.bytes)) = some (some (.agg #[.int .i64 0, .int .i64 0, .int .i64 0, .slice none 0 0, .slice none 0 0, .slice none 0 0, .slice none 0 0, .int .i64 0]), 8, 128) := by kernel_rfl
instance : TyElem 129 (.agg #[.int .i64 0, .int .i64 0, .int .i64 0, .slice none 0 0, .slice none 0 0, .slice none 0 0, .slice none 0 0, .int .i64 0]) 8 128 := ⟨ti129⟩
instance : TyInf 3 false 1 := ⟨⟨_, Try.underlying3, rfl⟩, ts3⟩
instance : TyZero 3 [.int .i64 0] := ⟨fun w => ⟨_, tz3 w, rfl⟩⟩
theorem ti3 : (Try.prog.info? 3).map (fun i => (i.zero, i.size, i.bytes)) = some (some (.int .i64 0), 1, 8) := by kernel_rfl
instance : TyElem 3 (.int .i64 0) 1 8 := ⟨ti3⟩
instance : TyInf 4 false 1 := ⟨⟨_, Try.underlying4, rfl⟩, ts4⟩
instance : TyZero 4 [.bool false] := ⟨fun w => ⟨_, tz4 w, rfl⟩⟩
theorem ti4 : (Try.prog.info? 4).map (fun i => (i.zero, i.size, i.bytes)) = some (some (.bool false), 1, 1) := by kernel_rfl
instance : TyElem 4 (.bool false) 1 1 := ⟨ti4⟩
instance : TyInf 24 false 1 := ⟨⟨_, Try.underlying24, rfl⟩, ts24⟩
instance : TyZero 24 [.slice none 0 0] := ⟨fun w => ⟨_, tz24 w, rfl⟩⟩
theorem ti24 : (Try.prog.info? 24).map (fun i => (i.zero, i.size, i.bytes)) = some (some (.slice none 0 0), 1, 24) := by kernel_rfl
instance : TyElem 24 (.slice none 0 0) 1 24 := ⟨ti24⟩
instance : TySlc 24 3 := ⟨Try.underlying24⟩
instance : TyInf 28 false 1 := ⟨⟨_, Try.underlying28, rfl⟩, ts28⟩
instance : TyZero 28 [.slice none 0 0] := ⟨fun w => ⟨_, tz28 w, rfl⟩⟩
theorem ti28 : (Try.prog.info? 28).map (fun i => (i.zero, i.size, i.bytes)) = some (some (.slice none 0 0), 1, 24) := by kernel_rfl
instance : TyElem 28 (.slice none 0 0) 1 24 := ⟨ti28⟩
instance : TySlc 28 4 := ⟨Try.underlying28⟩
instance : TyInf 27 false 1 := ⟨⟨_, Try.underlying27, rfl⟩, ts27⟩
instance : TyZero 27 [.slice none 0 0] := ⟨fun w => ⟨_, tz27 w, rfl⟩⟩
theorem ti27 : (Try.prog.info? 27).map (fun i => (i.zero, i.size, i.bytes)) = some (some (.slice none 0 0), 1, 24) := by kernel_rfl
instance : TyElem 27 (.slice none 0 0) 1 24 := ⟨ti27⟩
instance : TySlc 27 88 := ⟨Try.underlying27⟩
instance : TyInf 53 false 1 := ⟨⟨_, Try.underlying53, rfl⟩, ts53⟩
instance : TyZero 53 [.slice none 0 0] := ⟨fun w => ⟨_, tz53 w, rfl⟩⟩
theorem ti53 : (Try.prog.info? 53).map (fun i => (i.zero, i.size, i.bytes)) = some (some (.slice none 0 0), 1, 24) := by kernel_rfl
instance : TyElem 53 (.slice none 0 0) 1 24 := ⟨ti53⟩
instance : TySlc 53 86 := ⟨Try.underlying53⟩
instance : TyInf 31 false 1 := ⟨⟨_, Try.underlying31, rfl⟩, ts31⟩
instance : TyZero 31 [.slice none 0 0] := ⟨fun w => ⟨_, tz31 w, rfl⟩⟩
theorem ti31 : (Try.prog.info? 31).map (fun i => (i.zero, i.size, i.bytes)) = some (some (.slice none 0 0), 1, 24) := by kernel_rfl
instance : TyElem 31 (.slice none 0 0) 1 24 := ⟨ti31⟩
instance : TySlc 31 30 := ⟨Try.underlying31⟩
instance : TyInf 56 false 1 := ⟨⟨_, Try.underlying56, rfl⟩, ts56⟩
instance : TyZero 56 [.slice none 0 0] := ⟨fun w => ⟨_, tz56 w, rfl⟩⟩
theorem ti56 : (Try.prog.info? 56).map (fun i => (i.zero, i.size, i.bytes)) = some (some (.slice none 0 0), 1, 24) := by kernel_rfl
instance : TyElem 56 (.slice none 0 0) 1 24 := ⟨ti56⟩
instance : TySlc 56 55 := ⟨Try.underlying56⟩
instance : TyInf 45 false 1 := ⟨⟨_, Try.underlying45, rfl⟩, ts45⟩
instance : TyZero 45 [.slice none 0 0] := ⟨fun w => ⟨_, tz45 w, rfl⟩⟩
theorem ti45 : (Try.prog.info? 45).map (fun i => (i.zero, i.size, i.bytes)) = some (some (.slice none 0 0), 1, 24) := by kernel_rfl
instance : TyElem 45 (.slice none 0 0) 1 24 := ⟨ti45⟩
instance : TySlc 45 33 := ⟨Try.underlying45⟩
instance : TyInf 64 false 1 := ⟨⟨_, Try.underlying64, rfl⟩, ts64⟩
instance : TyZero 64 [.slice none 0 0] := ⟨fun w => ⟨_, tz64 w, rfl⟩⟩
theorem ti64 : (Try.prog.info? 64).map (fun i => (i.zero, i.size, i.bytes)) = some (some (.slice none 0 0), 1, 24) := by kernel_rfl
instance : TyElem 64 (.slice none 0 0) 1 24 := ⟨ti64⟩
instance : TySlc 64 58 := ⟨Try.underlying64⟩
instance : TyInf 22 false 1 := ⟨⟨_, Try.underlying22, rfl⟩, ts22⟩
instance : TyZero 22 [.slice none 0 0] := ⟨fun w => ⟨_, tz22 w, rfl⟩⟩
theorem ti22 : (Try.prog.info? 22).map (fun i => (i.zero, i.size, i.bytes)) = some (some (.slice none 0 0), 1, 24) := by kernel_rfl
instance : TyElem 22 (.slice none 0 0) 1 24 := ⟨ti22⟩
instance : TySlc 22 5 := ⟨Try.underlying22⟩
instance : TyInf 95 false 1 := ⟨⟨_, Try.underlying95, rfl⟩, ts95⟩
instance : TyZero 95 [.pointer none] := ⟨fun w => ⟨_, tz95 w, rfl⟩⟩
theorem ti95 : (Try.prog.info? 95).map (fun i => (i.zero, i.size, i.bytes)) = some (some (.pointer none), 1, 8) := by kernel_rfl
instance : TyElem 95 (.pointer none) 1 8 := ⟨ti95⟩
instance : TyInf 134 false 1 := ⟨⟨_, Try.underlying134, rfl⟩, ts134⟩
instance : TyZero 134 [.pointer none] := ⟨fun w => ⟨_, tz134 w, rfl⟩⟩
theorem ti134 : (Try.prog.info? 134).map (fun i => (i.zero, i.size, i.bytes)) = some (some (.pointer none), 1, 8) := by kernel_rfl
instance : TyElem 134 (.pointer none) 1 8 := ⟨ti134⟩
instance : TyInf 106 false 1 := ⟨⟨_, Try.underlying106, rfl⟩, ts106⟩
instance : TyZero 106 [.pointer none] := ⟨fun w => ⟨_, tz106 w, rfl⟩⟩
theorem ti106 : (Try.prog.info? 106).map (fun i => (i.zero, i.size, i.bytes)) = some (some (.pointer none), 1, 8) := by kernel_rfl
instance : TyElem 106 (.pointer none) 1 8 := ⟨ti106⟩
instance : TyInf 151 false 1 := ⟨⟨_, Try.underlying151, rfl⟩, ts151⟩
instance : TyZero 151 [.pointer none] := ⟨fun w => ⟨_, tz151 w, rfl⟩⟩
theorem ti151 : (Try.prog.info? 151).map (fun i => (i.zero, i.size, i.bytes)) = some (some (.pointer none), 1, 8) := by kernel_rfl
instance : TyElem 151 (.pointer none) 1 8 := ⟨ti151⟩
instance : TyInf 91 false 1 := ⟨⟨_, Try.underlying91, rfl⟩, ts91⟩
instance : TyZero 91 [.pointer none] := ⟨fun w => ⟨_, tz91 w, rfl⟩⟩
theorem ti91 : (Try.prog.info? 91).map (fun i => (i.zero, i.size, i.bytes)) = some (some (.pointer none), 1, 8) := by kernel_rfl
instance : TyElem 91 (.pointer none) 1 8 := ⟨ti91⟩
instance : TyInf 5 false 1 := ⟨⟨_, Try.underlying5, rfl⟩, ts5⟩
instance : TyZero 5 [.int .u8 0] := ⟨fun w => ⟨_, tz5 w, rfl⟩⟩
theorem ti5 : (Try.prog.info? 5).map (fun i => (i.zero, i.size, i.bytes)) = some (some (.int .u8 0), 1, 1) := by kernel_rfl
instance : TyElem 5 (.int .u8 0) 1 1 := ⟨ti5⟩
section
variable {ops : Array Oper} {rest : List Oper} {o : Oper} {a : Act} {Q : Exit → Act → World → Prop} {W w0 : World} {F0 : List Nat} {L L' : List Asrt} {K : Act → World → Prop}
theorem aBx {t n : Nat} {b : Bool} {x : Operand} {cs : List Value} (S : Sep F0 w0 L W) (h : ∀ g w1, W.heap.size ≤ g → Sep F0 w0 (aBox g t n cs :: L) w1 → wpList Try.prog ops Q rest (a.put o.dst (.pointer (some ⟨g, 0, none⟩))) w1) (hw : Region.wanted o (yielded ops a.tmps) = true := by exact rfl) (ho : o.op = .box t x := by exact rfl) (hi : TyInf t b n := by exact inferInstance) (hx : (a.eval x).cells = cs.toArray := by exact rfl) (hn : cs.length = n := by first | exact rfl | exact S.len' (by (repeat (first | with_reducible exact List.mem_cons_self | with_reducible apply List.mem_cons_of_mem)) <;> fail) (by exact rfl) | assumption | exact (Go.RowKit.Hid.out (by assumption))) : wpList Try.prog ops Q (o :: rest) a W := wpList_sbox S hw t x ho n cs hx hn h
theorem aAl {t n : Nat} {b : Bool} {cs : List Value} (S : Sep F0 w0 L W) (h : ∀ g w1, W.heap.size ≤ g → Sep F0 w0 (aBox g t n cs :: L) w1 → wpList Try.prog ops Q rest (a.put o.dst (.pointer (some ⟨g, 0, none⟩))) w1) (hw : Region.wanted o (yielded ops a.tmps) = true := by exact rfl) (ho : o.op = .alloc t := by exact rfl) (hi : TyInf t b n := by exact inferInstance) (hz : TyZero t cs := by exact inferInstance) (hn : cs.length = n := by exact rfl) : wpList Try.prog ops Q (o :: rest) a W := by
  obtain ⟨z, h1, h2⟩ := hz.z W
  exact wpList_salloc S hw t ho z h1 n cs h2 hn h
theorem aLd {t ty n g : Nat} {x : Operand} {cs : List Value} (S : Sep F0 w0 L W) (h : wpList Try.prog ops Q rest (a.put o.dst (.agg cs.toArray)) W) (hw : Region.wanted o (yielded ops a.tmps) = true := by exact rfl) (ho : o.op = .load ty x := by exact rfl) (hi : TyInf ty true n := by exact inferInstance) (hx : a.eval x = .pointer (some ⟨g, 0, none⟩) := by exact rfl) (hm : aBox g t n cs ∈ L := by (repeat (first | with_reducible exact List.mem_cons_self | with_reducible apply List.mem_cons_of_mem)) <;> fail) : wpList Try.prog ops Q (o :: rest) a W := by
  obtain ⟨d, h1, h2⟩ := hi.u
  exact wpList_sload S hw ty x ho hx hm d h1 (by cases d <;> exact h2) hi.s h
theorem aPt {t ty n m g j : Nat} {x : Operand} {cs vs : List Value} (S : Sep F0 w0 L W) (h : wpList Try.prog ops Q rest (a.put o.dst (.agg vs.toArray)) W) (hw : Region.wanted o (yielded ops a.tmps) = true := by exact rfl) (ho : o.op = .load ty x := by exact rfl) (hi : TyInf ty true m := by exact inferInstance) (hx : a.eval x = .pointer (some ⟨g, j, none⟩) := by exact rfl) (hm : aBox g t n cs ∈ L := by (repeat (first | with_reducible exact List.mem_cons_self | with_reducible apply List.mem_cons_of_mem)) <;> fail) (hj : j + m ≤ n := by decide) (hv : (cs.drop j).take m = vs := by (conv => lhs; simp only [List.drop_succ_cons, List.drop_zero, List.take_succ_cons, List.take_zero, List.set_cons_succ, List.set_cons_zero, List.cons_append, List.nil_append, List.append_nil, List.drop_nil, Nat.reduceAdd]); try exact rfl) : wpList Try.prog ops Q (o :: rest) a W := by
  obtain ⟨d, h1, h2⟩ := hi.u
  exact wpList_spart S hw ty x ho hx hm d h1 (by cases d <;> exact h2) hi.s hj vs hv h
theorem aL1 {t ty n m g j : Nat} {x : Operand} {cs : List Value} {v : Value} (S : Sep F0 w0 L W) (h : wpList Try.prog ops Q rest (a.put o.dst v) W) (hw : Region.wanted o (yielded ops a.tmps) = true := by exact rfl) (ho : o.op = .load ty x := by exact rfl) (hi : TyInf ty false m := by exact inferInstance) (hx : a.eval x = .pointer (some ⟨g, j, none⟩) := by exact rfl) (hm : aBox g t n cs ∈ L := by (repeat (first | with_reducible exact List.mem_cons_self | with_reducible apply List.mem_cons_of_mem)) <;> fail) (hv : cs[j]? = some v := by (conv => lhs; simp only [List.getElem?_cons_succ, List.getElem?_cons_zero]); try exact rfl) : wpList Try.prog ops Q (o :: rest) a W := by
  obtain ⟨d, h1, h2⟩ := hi.u
  exact wpList_sload1 S hw ty x ho hx hm d h1 (by cases d <;> exact h2) v hv h
theorem aSt {t ty n g : Nat} {b : Bool} {x y : Operand} {ls cs : List Value} (S : Sep F0 w0 L W) (h : ∀ w1, Sep F0 w0 L' w1 → wpList Try.prog ops Q rest (a.put o.dst undef) w1) (hw : Region.wanted o (yielded ops a.tmps) = true := by exact rfl) (ho : o.op = .store ty x y := by exact rfl) (hi : TyInf ty b n := by exact inferInstance) (hx : a.eval x = .pointer (some ⟨g, 0, none⟩) := by exact rfl) (hy : (a.eval y).cells = ls.toArray := by exact rfl) (hp : Put L (aBox g t n cs) (aBox g t n ls) L' := by (repeat (first | with_reducible exact Put.head _ _ _ | with_reducible apply Put.tail)) <;> fail) (hl : ls.length = n := by first | exact rfl | exact S.len' (by (repeat (first | with_reducible exact List.mem_cons_self | with_reducible apply List.mem_cons_of_mem)) <;> fail) (by exact rfl) | assumption | exact (Go.RowKit.Hid.out (by assumption))) (h1 : ∀ u ∈ ls, u.oneCell' = true := by first | assumption | exact S.one (by (repeat (first | with_reducible exact List.mem_cons_self | with_reducible apply List.mem_cons_of_mem)) <;> fail) | ((repeat (first | exact one_nil | refine one_cons (by first | exact rfl | exact S.rowOne (by (repeat (first | with_reducible exact List.mem_cons_self | with_reducible apply List.mem_cons_of_mem)) <;> fail) | assumption) ?_)) <;> fail)) : wpList Try.prog ops Q (o :: rest) a W := wpList_sput S hw ty x y ho hx ls hy hp hi.s hl h1 h
theorem aSp {t ty n m g j : Nat} {b : Bool} {x y : Operand} {ls cs cs' : List Value} (S : Sep F0 w0 L W) (h : ∀ w1, Sep F0 w0 L' w1 → wpList Try.prog ops Q rest (a.put o.dst undef) w1) (hw : Region.wanted o (yielded ops a.tmps) = true := by exact rfl) (ho : o.op = .store ty x y := by exact rfl) (hi : TyInf ty b m := by exact inferInstance) (hx : a.eval x = .pointer (some ⟨g, j, none⟩) := by exact rfl) (hy : (a.eval y).cells = ls.toArray := by exact rfl) (hm : aBox g t n cs ∈ L := by (repeat (first | with_reducible exact List.mem_cons_self | with_reducible apply List.mem_cons_of_mem)) <;> fail) (hl : ls.length = m := by first | exact rfl | exact S.len' (by (repeat (first | with_reducible exact List.mem_cons_self | with_reducible apply List.mem_cons_of_mem)) <;> fail) (by exact rfl) | assumption | exact (Go.RowKit.Hid.out (by assumption))) (h1 : ∀ u ∈ ls, u.oneCell' = true := by first | assumption | exact S.one (by (repeat (first | with_reducible exact List.mem_cons_self | with_reducible apply List.mem_cons_of_mem)) <;> fail) | ((repeat (first | exact one_nil | refine one_cons (by first | exact rfl | exact S.rowOne (by (repeat (first | with_reducible exact List.mem_cons_self | with_reducible apply List.mem_cons_of_mem)) <;> fail) | assumption) ?_)) <;> fail)) (hj : j + m ≤ n := by decide) (hv : cs.take j ++ (ls ++ cs.drop (j + m)) = cs' := by (conv => lhs; simp only [List.drop_succ_cons, List.drop_zero, List.take_succ_cons, List.take_zero, List.set_cons_succ, List.set_cons_zero, List.cons_append, List.nil_append, List.append_nil, List.drop_nil, Nat.reduceAdd]); try exact rfl) (hp : Put L (aBox g t n cs) (aBox g t n cs') L' := by (repeat (first | with_reducible exact Put.head _ _ _ | with_reducible apply Put.tail)) <;> fail) : wpList Try.prog ops Q (o :: rest) a W := wpList_sputp S hw ty x y ho hx ls hy hm hi.s hl h1 hj hv hp h
theorem aS1 {t ty n g j : Nat} {b : Bool} {x y : Operand} {v : Value} {cs cs' : List Value} (S : Sep F0 w0 L W) (h : ∀ w1, Sep F0 w0 L' w1 → wpList Try.prog ops Q rest (a.put o.dst undef) w1) (hw : Region.wanted o (yielded ops a.tmps) = true := by exact rfl) (ho : o.op = .store ty x y := by exact rfl) (hi : TyInf ty b 1 := by exact inferInstance) (hx : a.eval x = .pointer (some ⟨g, j, none⟩) := by exact rfl) (hy : a.eval y = v := by (conv => lhs; whnf); try exact rfl) (hm : aBox g t n cs ∈ L := by (repeat (first | with_reducible exact List.mem_cons_self | with_reducible apply List.mem_cons_of_mem)) <;> fail) (h1 : v.oneCell' = true := by first | exact rfl | exact S.rowOne (by (repeat (first | with_reducible exact List.mem_cons_self | with_reducible apply List.mem_cons_of_mem)) <;> fail) | assumption) (hj : j < n := by decide) (hv : cs.set j v = cs' := by (conv => lhs; simp only [List.drop_succ_cons, List.drop_zero, List.take_succ_cons, List.take_zero, List.set_cons_succ, List.set_cons_zero, List.cons_append, List.nil_append, List.append_nil, List.drop_nil, Nat.reduceAdd]); try exact rfl) (hp : Put L (aBox g t n cs) (aBox g t n cs') L' := by (repeat (first | with_reducible exact Put.head _ _ _ | with_reducible apply Put.tail)) <;> fail) : wpList Try.prog ops Q (o :: rest) a W := wpList_sput1 S hw ty x y ho hx v (by rw [hy]; exact cells_of_one h1) hm h1 hi.s hj hv hp h
theorem rgBx {t n : Nat} {b : Bool} {x : Operand} {cs : List Value} (S : Sep F0 w0 L W) (h : ∀ g w1, W.heap.size ≤ g → Sep F0 w0 (aBox g t n cs :: L) w1 → K (a.put o.dst (.pointer (some ⟨g, 0, none⟩))) w1) (hw : Region.wanted o (yielded ops a.tmps) = true := by exact rfl) (ho : o.op = .box t x := by exact rfl) (hi : TyInf t b n := by exact inferInstance) (hx : (a.eval x).cells = cs.toArray := by exact rfl) (hn : cs.length = n := by first | exact rfl | exact S.len' (by (repeat (first | with_reducible exact List.mem_cons_self | with_reducible apply List.mem_cons_of_mem)) <;> fail) (by exact rfl) | assumption | exact (Go.RowKit.Hid.out (by assumption))) : if Region.wanted o (yielded ops a.tmps) = true then Oper.wp Try.prog o a W K Q else K (a.put o.dst undef) W := step_sbox S hw t x ho n cs hx hn h
theorem rgAl {t n : Nat} {b : Bool} {cs : List Value} (S : Sep F0 w0 L W) (h : ∀ g w1, W.heap.size ≤ g → Sep F0 w0 (aBox g t n cs :: L) w1 → K (a.put o.dst (.pointer (some ⟨g, 0, none⟩))) w1) (hw : Region.wanted o (yielded ops a.tmps) = true := by exact rfl) (ho : o.op = .alloc t := by exact rfl) (hi : TyInf t b n := by exact inferInstance) (hz : TyZero t cs := by exact inferInstance) (hn : cs.length = n := by exact rfl) : if Region.wanted o (yielded ops a.tmps) = true then Oper.wp Try.prog o a W K Q else K (a.put o.dst undef) W := by
  obtain ⟨z, h1, h2⟩ := hz.z W
  exact step_salloc S hw t ho z h1 n cs h2 hn h
theorem rgLd {t ty n g : Nat} {x : Operand} {cs : List Value} (S : Sep F0 w0 L W) (h : K (a.put o.dst (.agg cs.toArray)) W) (hw : Region.wanted o (yielded ops a.tmps) = true := by exact rfl) (ho : o.op = .load ty x := by exact rfl) (hi : TyInf ty true n := by exact inferInstance) (hx : a.eval x = .pointer (some ⟨g, 0, none⟩) := by exact rfl) (hm : aBox g t n cs ∈ L := by (repeat (first | with_reducible exact List.mem_cons_self | with_reducible apply List.mem_cons_of_mem)) <;> fail) : if Region.wanted o (yielded ops a.tmps) = true then Oper.wp Try.prog o a W K Q else K (a.put o.dst undef) W := by
  obtain ⟨d, h1, h2⟩ := hi.u
  exact step_sload S hw ty x ho hx hm d h1 (by cases d <;> exact h2) hi.s h
theorem rgPt {t ty n m g j : Nat} {x : Operand} {cs vs : List Value} (S : Sep F0 w0 L W) (h : K (a.put o.dst (.agg vs.toArray)) W) (hw : Region.wanted o (yielded ops a.tmps) = true := by exact rfl) (ho : o.op = .load ty x := by exact rfl) (hi : TyInf ty true m := by exact inferInstance) (hx : a.eval x = .pointer (some ⟨g, j, none⟩) := by exact rfl) (hm : aBox g t n cs ∈ L := by (repeat (first | with_reducible exact List.mem_cons_self | with_reducible apply List.mem_cons_of_mem)) <;> fail) (hj : j + m ≤ n := by decide) (hv : (cs.drop j).take m = vs := by (conv => lhs; simp only [List.drop_succ_cons, List.drop_zero, List.take_succ_cons, List.take_zero, List.set_cons_succ, List.set_cons_zero, List.cons_append, List.nil_append, List.append_nil, List.drop_nil, Nat.reduceAdd]); try exact rfl) : if Region.wanted o (yielded ops a.tmps) = true then Oper.wp Try.prog o a W K Q else K (a.put o.dst undef) W := by
  obtain ⟨d, h1, h2⟩ := hi.u
  exact step_spart S hw ty x ho hx hm d h1 (by cases d <;> exact h2) hi.s hj vs hv h
theorem rgL1 {t ty n m g j : Nat} {x : Operand} {cs : List Value} {v : Value} (S : Sep F0 w0 L W) (h : K (a.put o.dst v) W) (hw : Region.wanted o (yielded ops a.tmps) = true := by exact rfl) (ho : o.op = .load ty x := by exact rfl) (hi : TyInf ty false m := by exact inferInstance) (hx : a.eval x = .pointer (some ⟨g, j, none⟩) := by exact rfl) (hm : aBox g t n cs ∈ L := by (repeat (first | with_reducible exact List.mem_cons_self | with_reducible apply List.mem_cons_of_mem)) <;> fail) (hv : cs[j]? = some v := by (conv => lhs; simp only [List.getElem?_cons_succ, List.getElem?_cons_zero]); try exact rfl) : if Region.wanted o (yielded ops a.tmps) = true then Oper.wp Try.prog o a W K Q else K (a.put o.dst undef) W := by
  obtain ⟨d, h1, h2⟩ := hi.u
  exact step_sload1 S hw ty x ho hx hm d h1 (by cases d <;> exact h2) v hv h
theorem rgSt {t ty n g : Nat} {b : Bool} {x y : Operand} {ls cs : List Value} (S : Sep F0 w0 L W) (h : ∀ w1, Sep F0 w0 L' w1 → K (a.put o.dst undef) w1) (hw : Region.wanted o (yielded ops a.tmps) = true := by exact rfl) (ho : o.op = .store ty x y := by exact rfl) (hi : TyInf ty b n := by exact inferInstance) (hx : a.eval x = .pointer (some ⟨g, 0, none⟩) := by exact rfl) (hy : (a.eval y).cells = ls.toArray := by exact rfl) (hp : Put L (aBox g t n cs) (aBox g t n ls) L' := by (repeat (first | with_reducible exact Put.head _ _ _ | with_reducible apply Put.tail)) <;> fail) (hl : ls.length = n := by first | exact rfl | exact S.len' (by (repeat (first | with_reducible exact List.mem_cons_self | with_reducible apply List.mem_cons_of_mem)) <;> fail) (by exact rfl) | assumption | exact (Go.RowKit.Hid.out (by assumption))) (h1 : ∀ u ∈ ls, u.oneCell' = true := by first | assumption | exact S.one (by (repeat (first | with_reducible exact List.mem_cons_self | with_reducible apply List.mem_cons_of_mem)) <;> fail) | ((repeat (first | exact one_nil | refine one_cons (by first | exact rfl | exact S.rowOne (by (repeat (first | with_reducible exact List.mem_cons_self | with_reducible apply List.mem_cons_of_mem)) <;> fail) | assumption) ?_)) <;> fail)) : if Region.wanted o (yielded ops a.tmps) = true then Oper.wp Try.prog o a W K Q else K (a.put o.dst undef) W := step_sput S hw ty x y ho hx ls hy hp hi.s hl h1 h
theorem rgSp {t ty n m g j : Nat} {b : Bool} {x y : Operand} {ls cs cs' : List Value} (S : Sep F0 w0 L W) (h : ∀ w1, Sep F0 w0 L' w1 → K (a.put o.dst undef) w1) (hw : Region.wanted o (yielded ops a.tmps) = true := by exact rfl) (ho : o.op = .store ty x y := by exact rfl) (hi : TyInf ty b m := by exact inferInstance) (hx : a.eval x = .pointer (some ⟨g, j, none⟩) := by exact rfl) (hy : (a.eval y).cells = ls.toArray := by exact rfl) (hm : aBox g t n cs ∈ L := by (repeat (first | with_reducible exact List.mem_cons_self | with_reducible apply List.mem_cons_of_mem)) <;> fail) (hl : ls.length = m := by first | exact rfl | exact S.len' (by (repeat (first | with_reducible exact List.mem_cons_self | with_reducible apply List.mem_cons_of_mem)) <;> fail) (by exact rfl) | assumption | exact (Go.RowKit.Hid.out (by assumption))) (h1 : ∀ u ∈ ls, u.oneCell' = true := by first | assumption | exact S.one (by (repeat (first | with_reducible exact List.mem_cons_self | with_reducible apply List.mem_cons_of_mem)) <;> fail) | ((repeat (first | exact one_nil | refine one_cons (by first | exact rfl | exact S.rowOne (by (repeat (first | with_reducible exact List.mem_cons_self | with_reducible apply List.mem_cons_of_mem)) <;> fail) | assumption) ?_)) <;> fail)) (hj : j + m ≤ n := by decide) (hv : cs.take j ++ (ls ++ cs.drop (j + m)) = cs' := by (conv => lhs; simp only [List.drop_succ_cons, List.drop_zero, List.take_succ_cons, List.take_zero, List.set_cons_succ, List.set_cons_zero, List.cons_append, List.nil_append, List.append_nil, List.drop_nil, Nat.reduceAdd]); try exact rfl) (hp : Put L (aBox g t n cs) (aBox g t n cs') L' := by (repeat (first | with_reducible exact Put.head _ _ _ | with_reducible apply Put.tail)) <;> fail) : if Region.wanted o (yielded ops a.tmps) = true then Oper.wp Try.prog o a W K Q else K (a.put o.dst undef) W := step_sputp S hw ty x y ho hx ls hy hm hi.s hl h1 hj hv hp h
theorem rgS1 {t ty n g j : Nat} {b : Bool} {x y : Operand} {v : Value} {cs cs' : List Value} (S : Sep F0 w0 L W) (h : ∀ w1, Sep F0 w0 L' w1 → K (a.put o.dst undef) w1) (hw : Region.wanted o (yielded ops a.tmps) = true := by exact rfl) (ho : o.op = .store ty x y := by exact rfl) (hi : TyInf ty b 1 := by exact inferInstance) (hx : a.eval x = .pointer (some ⟨g, j, none⟩) := by exact rfl) (hy : a.eval y = v := by (conv => lhs; whnf); try exact rfl) (hm : aBox g t n cs ∈ L := by (repeat (first | with_reducible exact List.mem_cons_self | with_reducible apply List.mem_cons_of_mem)) <;> fail) (h1 : v.oneCell' = true := by first | exact rfl | exact S.rowOne (by (repeat (first | with_reducible exact List.mem_cons_self | with_reducible apply List.mem_cons_of_mem)) <;> fail) | assumption) (hj : j < n := by decide) (hv : cs.set j v = cs' := by (conv => lhs; simp only [List.drop_succ_cons, List.drop_zero, List.take_succ_cons, List.take_zero, List.set_cons_succ, List.set_cons_zero, List.cons_append, List.nil_append, List.append_nil, List.drop_nil, Nat.reduceAdd]); try exact rfl) (hp : Put L (aBox g t n cs) (aBox g t n cs') L' := by (repeat (first | with_reducible exact Put.head _ _ _ | with_reducible apply Put.tail)) <;> fail) : if Region.wanted o (yielded ops a.tmps) = true then Oper.wp Try.prog o a W K Q else K (a.put o.dst undef) W := step_sput1 S hw ty x y ho hx v (by rw [hy]; exact cells_of_one h1) hm h1 hi.s hj hv hp h
theorem yLd {t ty n g : Nat} {x : Operand} {cs : List Value} (hw : Region.wanted o (yielded ops a.tmps) = true := by exact rfl) (ho : o.op = .load ty x := by exact rfl) (hi : TyInf ty true n := by exact inferInstance) (hx : a.eval x = .pointer (some ⟨g, 0, none⟩) := by exact rfl) (hm : aBox g t n cs ∈ L := by (repeat (first | with_reducible exact List.mem_cons_self | with_reducible apply List.mem_cons_of_mem)) <;> fail) : YieldsIf Try.prog ops (Sep F0 w0 L) o (.agg cs.toArray) a := by
  obtain ⟨d, h1, h2⟩ := hi.u
  exact yields_sload hw ty x ho hx hm d h1 (by cases d <;> exact h2) hi.s
theorem yPt {t ty n m g j : Nat} {x : Operand} {cs vs : List Value} (hw : Region.wanted o (yielded ops a.tmps) = true := by exact rfl) (ho : o.op = .load ty x := by exact rfl) (hi : TyInf ty true m := by exact inferInstance) (hx : a.eval x = .pointer (some ⟨g, j, none⟩) := by exact rfl) (hm : aBox g t n cs ∈ L := by (repeat (first | with_reducible exact List.mem_cons_self | with_reducible apply List.mem_cons_of_mem)) <;> fail) (hj : j + m ≤ n := by decide) (hv : (cs.drop j).take m = vs := by (conv => lhs; simp only [List.drop_succ_cons, List.drop_zero, List.take_succ_cons, List.take_zero, List.set_cons_succ, List.set_cons_zero, List.cons_append, List.nil_append, List.append_nil, List.drop_nil, Nat.reduceAdd]); try exact rfl) : YieldsIf Try.prog ops (Sep F0 w0 L) o (.agg vs.toArray) a := by
  obtain ⟨d, h1, h2⟩ := hi.u
  exact yields_spart hw ty x ho hx hm d h1 (by cases d <;> exact h2) hi.s hj vs hv
theorem yL1 {t ty n m g j : Nat} {x : Operand} {cs : List Value} {v : Value} (hw : Region.wanted o (yielded ops a.tmps) = true := by exact rfl) (ho : o.op = .load ty x := by exact rfl) (hi : TyInf ty false m := by exact inferInstance) (hx : a.eval x = .pointer (some ⟨g, j, none⟩) := by exact rfl) (hm : aBox g t n cs ∈ L := by (repeat (first | with_reducible exact List.mem_cons_self | with_reducible apply List.mem_cons_of_mem)) <;> fail) (hv : cs[j]? = some v := by (conv => lhs; simp only [List.getElem?_cons_succ, List.getElem?_cons_zero]); try exact rfl) : YieldsIf Try.prog ops (Sep F0 w0 L) o v a := by
  obtain ⟨d, h1, h2⟩ := hi.u
  exact yields_sload1 hw ty x ho hx hm d h1 (by cases d <;> exact h2) v hv
end
section
variable {ops : Array Oper} {Q : Exit → Act → World → Prop} {md : Region.Mode} {S : World → Prop} {oi : Oper} {v : Value} {fuel : Nat} {listed : Array Bool} {a : Act} {w : World}
/-- Number i is taken first. -/
theorem tk (i : Nat) (h : wpAnyH Try.prog md ops Q S fuel (listed.setIfInBounds i true) (a.put oi.dst v) w) (hi : ops[i]? = some oi := by (conv => lhs; simp only [List.getElem?_toArray, List.getElem?_cons_zero, List.getElem?_cons_succ]); try exact rfl) (hs : Region.noSelect ops = true := by kernel_rfl) (hf : Region.free md ops listed i = true := by kernel_rfl) (hr : (Region.ready md ops listed).contains i = true := by kernel_rfl)
    (hQ : ∀ c a w, Q (.panic c) (a.put oi.dst v) w → Q (.panic c) a w := by exact fun _ _ _ h => h) (hy : YieldsIf Try.prog ops S oi v a := by first | exact yLd | exact yPt | exact yL1 | exact Or.inl ⟨by rfl, by intro w9 _; first | (go_simp; done) | (go_simp; with_reducible rfl)⟩ | (refine Or.inr ⟨by rfl, ?_⟩; rfl)) (hS : S w := by assumption) : wpAnyH Try.prog md ops Q S (fuel + 1) listed a w := wpAnyH_take hi hs hf hr hQ hy hS h
end
section
variable {ops : Array Oper} {Q : Exit → Act → World → Prop} {md : Region.Mode} {S : World → Prop} {o : Oper} {rs : List Nat} {fuel : Nat} {listed : Array Bool} {a : Act} {w : World}
/-- What comes up next. -/
theorem rdc (i : Nat) (h : ∀ K' : Act → World → Prop, Shut (∀ a w, S w → (S w → wpAnyH Try.prog md ops Q S fuel (listed.setIfInBounds i true) a w) → K' a w) → if Region.wanted o (yielded ops a.tmps) = true then Oper.wp Try.prog o a w K' Q else K' (a.put o.dst undef) w) (hs : AllReadyH Try.prog md ops Q S fuel listed a w rs) (ho : ops[i]? = some o := by (conv => lhs; simp only [List.getElem?_toArray, List.getElem?_cons_zero, List.getElem?_cons_succ]); try exact rfl) : AllReadyH Try.prog md ops Q S fuel listed a w (i :: rs) := AllReadyH.cons ho h hs
theorem rdy1 (i : Nat) (h : ∀ K' : Act → World → Prop, Shut (∀ a w, S w → (S w → wpAnyH Try.prog md ops Q S fuel (listed.setIfInBounds i true) a w) → K' a w) → if Region.wanted o (yielded ops a.tmps) = true then Oper.wp Try.prog o a w K' Q else K' (a.put o.dst undef) w) (ho : ops[i]? = some o := by (conv => lhs; simp only [List.getElem?_toArray, List.getElem?_cons_zero, List.getElem?_cons_succ]); try exact rfl) (hr : Region.ready md ops listed = [i] := by kernel_rfl) : wpAnyH Try.prog md ops Q S (fuel + 1) listed a w := wpAnyH_ready hr (by simp) (AllReadyH.cons ho h AllReadyH.nil)
theorem rdys (rs : List Nat) (h : AllReadyH Try.prog md ops Q S fuel listed a w rs) (hr : Region.ready md ops listed = rs := by kernel_rfl) (hne : rs ≠ [] := by simp) : wpAnyH Try.prog md ops Q S (fuel + 1) listed a w := wpAnyH_ready hr hne h
end
end Go.Proofs.Ytapdcgjccckjeaa
