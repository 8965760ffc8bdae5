/- Sizes and zero values of the types that the walks meet. -/
import Derived.Test.YthnjambkgldjdaaProg
import Derived.KernelRfl
namespace Go.Proofs.Ythnjambkgldjdaa
set_option linter.unusedVariables false
set_option linter.unusedSimpArgs false
theorem ts41 : (Try.prog.info? 41).map (·.size) = some 7 := by kernel_rfl
theorem tz41 (w : World) : (zeroValue 41).run Try.prog w = .ok (.agg #[.int .i64 0, .int .i64 0, .int .i64 0, .int .i64 0, .int .i64 0, .int .i64 0, .int .i64 0]) w := by kernel_rfl
theorem ts39 : (Try.prog.info? 39).map (·.size) = some 7 := by kernel_rfl
theorem tz39 (w : World) : (zeroValue 39).run Try.prog w = .ok (.agg #[.int .i64 0, .int .i64 0, .int .i64 0, .int .i64 0, .int .i64 0, .int .i64 0, .int .i64 0]) w := by kernel_rfl
theorem ts26 : (Try.prog.info? 26).map (·.size) = some 7 := by kernel_rfl
theorem tz26 (w : World) : (zeroValue 26).run Try.prog w = .ok (.agg #[.int .i64 0, .int .i64 0, .int .i64 0, .slice none 0 0, .slice none 0 0, .slice none 0 0, .slice none 0 0]) w := by kernel_rfl
theorem ts33 : (Try.prog.info? 33).map (·.size) = some 7 := by kernel_rfl
theorem tz33 (w : World) : (zeroValue 33).run Try.prog w = .ok (.agg #[.int .i64 0, .int .i64 0, .int .i64 0, .slice none 0 0, .slice none 0 0, .slice none 0 0, .slice none 0 0]) w := by kernel_rfl
theorem ts3 : (Try.prog.info? 3).map (·.size) = some 1 := by kernel_rfl
theorem tz3 (w : World) : (zeroValue 3).run Try.prog w = .ok (.int .i64 0) w := by kernel_rfl
theorem ts4 : (Try.prog.info? 4).map (·.size) = some 1 := by kernel_rfl
theorem tz4 (w : World) : (zeroValue 4).run Try.prog w = .ok (.bool false) w := by kernel_rfl
theorem ts24 : (Try.prog.info? 24).map (·.size) = some 1 := by kernel_rfl
theorem tz24 (w : World) : (zeroValue 24).run Try.prog w = .ok (.slice none 0 0) w := by kernel_rfl
theorem ts23 : (Try.prog.info? 23).map (·.size) = some 1 := by kernel_rfl
theorem tz23 (w : World) : (zeroValue 23).run Try.prog w = .ok (.slice none 0 0) w := by kernel_rfl
theorem ts22 : (Try.prog.info? 22).map (·.size) = some 1 := by kernel_rfl
theorem tz22 (w : World) : (zeroValue 22).run Try.prog w = .ok (.slice none 0 0) w := by kernel_rfl
theorem ts31 : (Try.prog.info? 31).map (·.size) = some 1 := by kernel_rfl
theorem tz31 (w : World) : (zeroValue 31).run Try.prog w = .ok (.slice none 0 0) w := by kernel_rfl
end Go.Proofs.Ythnjambkgldjdaa
