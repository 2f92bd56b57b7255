import Derived.Test.YtompjoadhhjddaaProg
import Derived.Test.YtompjoadhhjddaaVaiD
namespace Go.Vai
open Go.Proofs Go.Vai
set_option linter.unusedSimpArgs false
set_option linter.unusedVariables false
theorem u3 : Try.prog.underlying 3 = some (.int .i64) := by kernel_rfl
theorem ti3 : tiOf Try.prog 3 = some ⟨1, 8, [.base (.int .i64 0)], false⟩ := by kernel_rfl
theorem u4 : Try.prog.underlying 4 = some .bool := by kernel_rfl
theorem ti4 : tiOf Try.prog 4 = some ⟨1, 1, [.base (.bool false)], false⟩ := by kernel_rfl
theorem u5 : Try.prog.underlying 5 = some (.int .u8) := by kernel_rfl
theorem ti5 : tiOf Try.prog 5 = some ⟨1, 1, [.base (.int .u8 0)], false⟩ := by kernel_rfl
theorem u22 : Try.prog.underlying 22 = some (.slice 94) := by kernel_rfl
theorem ti22 : tiOf Try.prog 22 = some ⟨1, 24, [.sl 2 true []], false⟩ := by kernel_rfl
theorem el22 : elOf Try.prog 22 = some 94 := by kernel_rfl
theorem ti24 : tiOf Try.prog 24 = some ⟨3, 40, [.base (.int .i64 0), .base (.int .i64 0), .sl 2 true []], true⟩ := by kernel_rfl
theorem pl24 : placesOf Try.prog 24 = some [(0, 1), (1, 1), (2, 1)] := by kernel_rfl
theorem fo24_0 : fieldOf Try.prog 24 0 = some (0, 1) := by kernel_rfl
theorem fo24_1 : fieldOf Try.prog 24 1 = some (1, 1) := by kernel_rfl
theorem fo24_2 : fieldOf Try.prog 24 2 = some (2, 1) := by kernel_rfl
theorem u25 : Try.prog.underlying 25 = some (.slice 5) := by kernel_rfl
theorem ti25 : tiOf Try.prog 25 = some ⟨1, 24, [.sl 1 true []], false⟩ := by kernel_rfl
theorem el25 : elOf Try.prog 25 = some 5 := by kernel_rfl
theorem sz25 : szOf Try.prog 25 = 1 := by kernel_rfl
theorem u33 : Try.prog.underlying 33 = some (.pointer 101) := by kernel_rfl
theorem u65 : Try.prog.underlying 65 = some (.slice 74) := by kernel_rfl
theorem el65 : elOf Try.prog 65 = some 74 := by kernel_rfl
theorem sz65 : szOf Try.prog 65 = 6 := by kernel_rfl
theorem ti74 : tiOf Try.prog 74 = some ⟨6, 64, [.base (.int .i64 0), .base (.int .i64 0), .base (.int .i64 0), .sl 2 true [], .base (.int .i64 0), .base (.int .i64 0)], true⟩ := by kernel_rfl
theorem pl74 : placesOf Try.prog 74 = some [(0, 1), (1, 3), (4, 1), (5, 1)] := by kernel_rfl
theorem fo74_0 : fieldOf Try.prog 74 0 = some (0, 1) := by kernel_rfl
theorem fo74_1 : fieldOf Try.prog 74 1 = some (1, 3) := by kernel_rfl
theorem fo74_2 : fieldOf Try.prog 74 2 = some (4, 1) := by kernel_rfl
theorem fo74_3 : fieldOf Try.prog 74 3 = some (5, 1) := by kernel_rfl
theorem ti94 : tiOf Try.prog 94 = some ⟨2, 16, [.base (.int .i64 0), .base (.int .i64 0)], true⟩ := by kernel_rfl
theorem us94 : isStruct Try.prog 94 = true := by kernel_rfl
theorem fl94 : flatT Try.prog 5 94 = some [.i, .i] := by kernel_rfl
theorem eg94 : Try.prog.eqGuardType Try.prog.depth 94 = false := by kernel_rfl
theorem pl94 : placesOf Try.prog 94 = some [(0, 1), (1, 1)] := by kernel_rfl
theorem fo94_0 : fieldOf Try.prog 94 0 = some (0, 1) := by kernel_rfl
theorem fo94_1 : fieldOf Try.prog 94 1 = some (1, 1) := by kernel_rfl
theorem u97 : Try.prog.underlying 97 = some (.int .u64) := by kernel_rfl
theorem ti101 : tiOf Try.prog 101 = some ⟨2, 32, [.sl 1 true [], .base (.bool false)], true⟩ := by kernel_rfl
theorem pl101 : placesOf Try.prog 101 = some [(0, 1), (1, 1)] := by kernel_rfl
theorem fo101_0 : fieldOf Try.prog 101 0 = some (0, 1) := by kernel_rfl
theorem fo101_1 : fieldOf Try.prog 101 1 = some (1, 1) := by kernel_rfl
theorem ti104 : tiOf Try.prog 104 = some ⟨3, 40, [.sl 1 true [], .base (.int .i64 0), .base (.bool false)], true⟩ := by kernel_rfl
theorem pl104 : placesOf Try.prog 104 = some [(0, 1), (1, 1), (2, 1)] := by kernel_rfl
theorem fo104_0 : fieldOf Try.prog 104 0 = some (0, 1) := by kernel_rfl
theorem fo104_1 : fieldOf Try.prog 104 1 = some (1, 1) := by kernel_rfl
theorem fo104_2 : fieldOf Try.prog 104 2 = some (2, 1) := by kernel_rfl

end Go.Vai
