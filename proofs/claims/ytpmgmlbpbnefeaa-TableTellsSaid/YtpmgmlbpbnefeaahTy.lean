import Derived.Test.YtpmgmlbpbnefeaaProg
import Derived.Test.YtpmgmlbpbnefeaaVaiD
namespace Go.Vai
open Go.Proofs Go.Vai
set_option linter.unusedSimpArgs false
set_option linter.unusedVariables false
theorem ti3 : tiOf Try.prog 3 = some ⟨1, 8, [.base (.int .i64 0)], false⟩ := by kernel_rfl
theorem ti4 : tiOf Try.prog 4 = some ⟨1, 1, [.base (.bool false)], false⟩ := by kernel_rfl
theorem u22 : Try.prog.underlying 22 = some (.slice 36) := by kernel_rfl
theorem el22 : elOf Try.prog 22 = some 36 := by kernel_rfl
theorem sz22 : szOf Try.prog 22 = 8 := by kernel_rfl
theorem u24 : Try.prog.underlying 24 = some (.slice 32) := by kernel_rfl
theorem el24 : elOf Try.prog 24 = some 32 := by kernel_rfl
theorem sz24 : szOf Try.prog 24 = 2 := by kernel_rfl
theorem u26 : Try.prog.underlying 26 = some (.slice 3) := by kernel_rfl
theorem el26 : elOf Try.prog 26 = some 3 := by kernel_rfl
theorem sz26 : szOf Try.prog 26 = 1 := by kernel_rfl
theorem u28 : Try.prog.underlying 28 = some (.slice 34) := by kernel_rfl
theorem el28 : elOf Try.prog 28 = some 34 := by kernel_rfl
theorem sz28 : szOf Try.prog 28 = 2 := by kernel_rfl
theorem ti32 : tiOf Try.prog 32 = some ⟨2, 16, [.base (.int .i64 0), .base (.int .i64 0)], true⟩ := by kernel_rfl
theorem us32 : isStruct Try.prog 32 = true := by kernel_rfl
theorem fl32 : flatT Try.prog 5 32 = some [.i, .i] := by kernel_rfl
theorem eg32 : Try.prog.eqGuardType Try.prog.depth 32 = false := by kernel_rfl
theorem pl32 : placesOf Try.prog 32 = some [(0, 1), (1, 1)] := by kernel_rfl
theorem ti34 : tiOf Try.prog 34 = some ⟨2, 16, [.base (.int .i64 0), .base (.int .i64 0)], true⟩ := by kernel_rfl
theorem us34 : isStruct Try.prog 34 = true := by kernel_rfl
theorem fl34 : flatT Try.prog 5 34 = some [.i, .i] := by kernel_rfl
theorem eg34 : Try.prog.eqGuardType Try.prog.depth 34 = false := by kernel_rfl
theorem pl34 : placesOf Try.prog 34 = some [(0, 1), (1, 1)] := by kernel_rfl
theorem fo34_0 : fieldOf Try.prog 34 0 = some (0, 1) := by kernel_rfl
theorem ti36 : tiOf Try.prog 36 = some ⟨8, 56, [.base (.int .i64 0), .base (.int .i64 0), .base (.int .i64 0), .base (.int .i64 0), .base (.bool false), .base (.bool false), .base (.int .i64 0), .base (.bool false)], true⟩ := by kernel_rfl
theorem pl36 : placesOf Try.prog 36 = some [(0, 1), (1, 1), (2, 1), (3, 1), (4, 1), (5, 1), (6, 1), (7, 1)] := by kernel_rfl
theorem fo36_0 : fieldOf Try.prog 36 0 = some (0, 1) := by kernel_rfl
theorem fo36_1 : fieldOf Try.prog 36 1 = some (1, 1) := by kernel_rfl
theorem fo36_2 : fieldOf Try.prog 36 2 = some (2, 1) := by kernel_rfl
theorem fo36_3 : fieldOf Try.prog 36 3 = some (3, 1) := by kernel_rfl
theorem fo36_4 : fieldOf Try.prog 36 4 = some (4, 1) := by kernel_rfl
theorem fo36_5 : fieldOf Try.prog 36 5 = some (5, 1) := by kernel_rfl
theorem fo36_6 : fieldOf Try.prog 36 6 = some (6, 1) := by kernel_rfl
theorem fo36_7 : fieldOf Try.prog 36 7 = some (7, 1) := by kernel_rfl

end Go.Vai
