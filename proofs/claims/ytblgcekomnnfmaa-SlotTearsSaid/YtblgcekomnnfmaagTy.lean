import Derived.Test.YtblgcekomnnfmaaProg
import Derived.Test.YtblgcekomnnfmaaVaiD
namespace Go.Vai
open Go.Proofs Go.Vai
set_option linter.unusedSimpArgs false
set_option linter.unusedVariables false
theorem u3 : Try.prog.underlying 3 = some (.int .i64) := by kernel_rfl
theorem ti3 : tiOf Try.prog 3 = some ⟨1, 8, [.base (.int .i64 0)], false⟩ := by kernel_rfl
theorem ti4 : tiOf Try.prog 4 = some ⟨1, 1, [.base (.bool false)], false⟩ := by kernel_rfl
theorem u5 : Try.prog.underlying 5 = some (.int .u8) := by kernel_rfl
theorem ti5 : tiOf Try.prog 5 = some ⟨1, 1, [.base (.int .u8 0)], false⟩ := by kernel_rfl
theorem u9 : Try.prog.underlying 9 = some .string := by kernel_rfl
theorem u22 : Try.prog.underlying 22 = some (.slice 5) := by kernel_rfl
theorem ti22 : tiOf Try.prog 22 = some ⟨1, 24, [.sl 1 true []], false⟩ := by kernel_rfl
theorem el22 : elOf Try.prog 22 = some 5 := by kernel_rfl
theorem sz22 : szOf Try.prog 22 = 1 := by kernel_rfl
theorem u40 : Try.prog.underlying 40 = some (.int .u32) := by kernel_rfl
theorem u42 : Try.prog.underlying 42 = some (.int .u64) := by kernel_rfl
theorem ti45 : tiOf Try.prog 45 = some ⟨2, 32, [.base (.int .i64 0), .sl 1 true []], true⟩ := by kernel_rfl
theorem pl45 : placesOf Try.prog 45 = some [(0, 1), (1, 1)] := by kernel_rfl
theorem fo45_0 : fieldOf Try.prog 45 0 = some (0, 1) := by kernel_rfl
theorem fo45_1 : fieldOf Try.prog 45 1 = some (1, 1) := by kernel_rfl
theorem u47 : Try.prog.underlying 47 = some (.slice 22) := by kernel_rfl
theorem el47 : elOf Try.prog 47 = some 22 := by kernel_rfl
theorem sz47 : szOf Try.prog 47 = 1 := by kernel_rfl
theorem ti56 : tiOf Try.prog 56 = some ⟨3, 40, [.base (.int .i64 0), .base (.int .u8 0), .sl 1 true []], true⟩ := by kernel_rfl
theorem fo56_0 : fieldOf Try.prog 56 0 = some (0, 1) := by kernel_rfl
theorem fo56_1 : fieldOf Try.prog 56 1 = some (1, 1) := by kernel_rfl
theorem fo56_2 : fieldOf Try.prog 56 2 = some (2, 1) := by kernel_rfl
theorem ti58 : tiOf Try.prog 58 = some ⟨7, 72, [.base (.int .i64 0), .base (.int .i64 0), .base (.int .i64 0), .base (.int .i64 0), .base (.int .i64 0), .base (.int .i64 0), .sl 1 true []], true⟩ := by kernel_rfl
theorem pl58 : placesOf Try.prog 58 = some [(0, 1), (1, 1), (2, 1), (3, 1), (4, 1), (5, 1), (6, 1)] := by kernel_rfl
theorem fo58_0 : fieldOf Try.prog 58 0 = some (0, 1) := by kernel_rfl
theorem fo58_1 : fieldOf Try.prog 58 1 = some (1, 1) := by kernel_rfl
theorem fo58_2 : fieldOf Try.prog 58 2 = some (2, 1) := by kernel_rfl
theorem fo58_3 : fieldOf Try.prog 58 3 = some (3, 1) := by kernel_rfl
theorem fo58_4 : fieldOf Try.prog 58 4 = some (4, 1) := by kernel_rfl
theorem fo58_5 : fieldOf Try.prog 58 5 = some (5, 1) := by kernel_rfl
theorem fo58_6 : fieldOf Try.prog 58 6 = some (6, 1) := by kernel_rfl
theorem u69 : Try.prog.underlying 69 = some (.pointer 120) := by kernel_rfl
theorem u71 : Try.prog.underlying 71 = some (.int .u64) := by kernel_rfl
theorem u91 : Try.prog.underlying 91 = some (.slice 58) := by kernel_rfl
theorem el91 : elOf Try.prog 91 = some 58 := by kernel_rfl
theorem sz91 : szOf Try.prog 91 = 7 := by kernel_rfl
theorem ti120 : tiOf Try.prog 120 = some ⟨2, 32, [.sl 1 true [], .base (.bool false)], true⟩ := by kernel_rfl
theorem pl120 : placesOf Try.prog 120 = some [(0, 1), (1, 1)] := by kernel_rfl
theorem fo120_0 : fieldOf Try.prog 120 0 = some (0, 1) := by kernel_rfl
theorem fo120_1 : fieldOf Try.prog 120 1 = some (1, 1) := by kernel_rfl
theorem u131 : Try.prog.underlying 131 = some (.slice 3) := by kernel_rfl
theorem el131 : elOf Try.prog 131 = some 3 := by kernel_rfl

end Go.Vai
