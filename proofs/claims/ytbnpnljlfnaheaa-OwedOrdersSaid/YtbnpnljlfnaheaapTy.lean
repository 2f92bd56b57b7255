import Derived.Test.YtbnpnljlfnaheaaProg
import Derived.Test.YtbnpnljlfnaheaaVaiE
namespace Go.Vai
open Go.Proofs Go.Vai
set_option linter.unusedSimpArgs false
set_option linter.unusedVariables false
theorem un3 : Try.prog.underlying 3 = some (.int .i64) := by kernel_rfl
theorem ti3 : tiOf Try.prog 3 = some ⟨1, 8, [.base (.int .i64 0)], false⟩ := by kernel_rfl
theorem un4 : Try.prog.underlying 4 = some .bool := by kernel_rfl
theorem ti4 : tiOf Try.prog 4 = some ⟨1, 1, [.base (.bool false)], false⟩ := by kernel_rfl
theorem un5 : Try.prog.underlying 5 = some (.int .u8) := by kernel_rfl
theorem ti5 : tiOf Try.prog 5 = some ⟨1, 1, [.base (.int .u8 0)], false⟩ := by kernel_rfl
theorem un22 : Try.prog.underlying 22 = some (.slice 30) := by kernel_rfl
theorem ti22 : tiOf Try.prog 22 = some ⟨1, 24, [.sl 2 true []], false⟩ := by kernel_rfl
theorem el22 : elOf Try.prog 22 = some 30 := by kernel_rfl
theorem sz22 : szOf Try.prog 22 = 2 := by kernel_rfl
theorem un23 : Try.prog.underlying 23 = some (.slice 5) := by kernel_rfl
theorem ti23 : tiOf Try.prog 23 = some ⟨1, 24, [.sl 1 true []], false⟩ := by kernel_rfl
theorem el23 : elOf Try.prog 23 = some 5 := by kernel_rfl
theorem sz23 : szOf Try.prog 23 = 1 := by kernel_rfl
theorem un26 : Try.prog.underlying 26 = some (.int .i64) := by kernel_rfl
theorem ti26 : tiOf Try.prog 26 = some ⟨1, 8, [.base (.int .i64 0)], false⟩ := by kernel_rfl
theorem ti30 : tiOf Try.prog 30 = some ⟨2, 16, [.base (.int .i64 0), .base (.int .i64 0)], true⟩ := by kernel_rfl
theorem us30 : isStruct Try.prog 30 = true := by kernel_rfl
theorem fl30 : flatT Try.prog 5 30 = some [.i, .i] := by kernel_rfl
theorem eg30 : Try.prog.eqGuardType Try.prog.depth 30 = false := by kernel_rfl
theorem pl30 : placesOf Try.prog 30 = some [(0, 1), (1, 1)] := by kernel_rfl
theorem fo30_0 : fieldOf Try.prog 30 0 = some (0, 1) := by kernel_rfl
theorem fo30_1 : fieldOf Try.prog 30 1 = some (1, 1) := by kernel_rfl
theorem un105 : Try.prog.underlying 105 = some (.int .u64) := by kernel_rfl
theorem ti105 : tiOf Try.prog 105 = some ⟨1, 8, [.base (.int .u64 0)], false⟩ := by kernel_rfl
attribute [go_sem] un3 ti3 un4 ti4 un5 ti5
attribute [go_sem] un22 ti22 el22 sz22 un23 ti23
attribute [go_sem] el23 sz23 un26 ti26 ti30
attribute [go_sem] us30 fl30 eg30 pl30 fo30_0 fo30_1
attribute [go_sem] un105 ti105
end Go.Vai
