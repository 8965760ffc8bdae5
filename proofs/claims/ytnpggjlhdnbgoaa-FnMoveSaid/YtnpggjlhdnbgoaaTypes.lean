/- Sizes and zero values of the types that the walks meet. -/
import Derived.Test.YtnpggjlhdnbgoaaProg
import Derived.KernelRfl
namespace Go.Proofs.Ytnpggjlhdnbgoaa
set_option linter.unusedVariables false
set_option linter.unusedSimpArgs false
theorem ts24 : (Try.prog.info? 24).map (·.size) = some 3 := by kernel_rfl
theorem tz24 (w : World) : (zeroValue 24).run Try.prog w = .ok (.agg #[.slice none 0 0, .slice none 0 0, .int .i64 0]) w := by kernel_rfl
theorem ts29 : (Try.prog.info? 29).map (·.size) = some 3 := by kernel_rfl
theorem tz29 (w : World) : (zeroValue 29).run Try.prog w = .ok (.agg #[.slice none 0 0, .slice none 0 0, .int .i64 0]) w := by kernel_rfl
theorem ts73 : (Try.prog.info? 73).map (·.size) = some 2 := by kernel_rfl
theorem tz73 (w : World) : (zeroValue 73).run Try.prog w = .ok (.agg #[.slice none 0 0, .int .i64 0]) w := by kernel_rfl
theorem ts3 : (Try.prog.info? 3).map (·.size) = some 1 := by kernel_rfl
theorem tz3 (w : World) : (zeroValue 3).run Try.prog w = .ok (.int .i64 0) w := by kernel_rfl
theorem ts4 : (Try.prog.info? 4).map (·.size) = some 1 := by kernel_rfl
theorem tz4 (w : World) : (zeroValue 4).run Try.prog w = .ok (.bool false) w := by kernel_rfl
theorem ts22 : (Try.prog.info? 22).map (·.size) = some 1 := by kernel_rfl
theorem tz22 (w : World) : (zeroValue 22).run Try.prog w = .ok (.slice none 0 0) w := by kernel_rfl
theorem ts36 : (Try.prog.info? 36).map (·.size) = some 1 := by kernel_rfl
theorem tz36 (w : World) : (zeroValue 36).run Try.prog w = .ok (.slice none 0 0) w := by kernel_rfl
end Go.Proofs.Ytnpggjlhdnbgoaa
