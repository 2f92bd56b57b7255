import Derived.Test.YtkekchbnaidmnaaProg
import Derived.Test.YtkekchbnaidmnaaVaiE
namespace Go.Vai
open Go.Proofs Go.Vai
set_option linter.unusedSimpArgs false
set_option linter.unusedVariables false
theorem un2 : Try.prog.underlying 2 = some (.int .i64) := by kernel_rfl
theorem ti2 : tiOf Try.prog 2 = some ⟨1, 8, [.base (.int .i64 0)], false⟩ := by kernel_rfl
theorem un3 : Try.prog.underlying 3 = some (.int .i64) := by kernel_rfl
theorem ti3 : tiOf Try.prog 3 = some ⟨1, 8, [.base (.int .i64 0)], false⟩ := by kernel_rfl
theorem un4 : Try.prog.underlying 4 = some .bool := by kernel_rfl
theorem ti4 : tiOf Try.prog 4 = some ⟨1, 1, [.base (.bool false)], false⟩ := by kernel_rfl
theorem un5 : Try.prog.underlying 5 = some (.int .u8) := by kernel_rfl
theorem ti5 : tiOf Try.prog 5 = some ⟨1, 1, [.base (.int .u8 0)], false⟩ := by kernel_rfl
theorem un22 : Try.prog.underlying 22 = some (.slice 31) := by kernel_rfl
theorem ti22 : tiOf Try.prog 22 = some ⟨1, 24, [.sl 3 true []], false⟩ := by kernel_rfl
theorem el22 : elOf Try.prog 22 = some 31 := by kernel_rfl
theorem sz22 : szOf Try.prog 22 = 3 := by kernel_rfl
theorem un23 : Try.prog.underlying 23 = some (.slice 5) := by kernel_rfl
theorem ti23 : tiOf Try.prog 23 = some ⟨1, 24, [.sl 1 true []], false⟩ := by kernel_rfl
theorem el23 : elOf Try.prog 23 = some 5 := by kernel_rfl
theorem sz23 : szOf Try.prog 23 = 1 := by kernel_rfl
theorem un26 : Try.prog.underlying 26 = some (.int .i64) := by kernel_rfl
theorem ti26 : tiOf Try.prog 26 = some ⟨1, 8, [.base (.int .i64 0)], false⟩ := by kernel_rfl
theorem un29 : Try.prog.underlying 29 = some (.slice 57) := by kernel_rfl
theorem ti29 : tiOf Try.prog 29 = some ⟨1, 24, [.sl 2 true []], false⟩ := by kernel_rfl
theorem el29 : elOf Try.prog 29 = some 57 := by kernel_rfl
theorem sz29 : szOf Try.prog 29 = 2 := by kernel_rfl
theorem ti31 : tiOf Try.prog 31 = some ⟨3, 40, [.base (.int .i64 0), .base (.int .i64 0), .sl 2 true []], true⟩ := by kernel_rfl
theorem us31 : isStruct Try.prog 31 = true := by kernel_rfl
theorem eg31 : Try.prog.eqGuardType Try.prog.depth 31 = false := by kernel_rfl
theorem pl31 : placesOf Try.prog 31 = some [(0, 1), (1, 1), (2, 1)] := by kernel_rfl
theorem fo31_0 : fieldOf Try.prog 31 0 = some (0, 1) := by kernel_rfl
theorem fo31_1 : fieldOf Try.prog 31 1 = some (1, 1) := by kernel_rfl
theorem fo31_2 : fieldOf Try.prog 31 2 = some (2, 1) := by kernel_rfl
theorem un33 : Try.prog.underlying 33 = some (.slice 49) := by kernel_rfl
theorem ti33 : tiOf Try.prog 33 = some ⟨1, 24, [.sl 2 true []], false⟩ := by kernel_rfl
theorem el33 : elOf Try.prog 33 = some 49 := by kernel_rfl
theorem sz33 : szOf Try.prog 33 = 2 := by kernel_rfl
theorem ti49 : tiOf Try.prog 49 = some ⟨2, 16, [.base (.int .i64 0), .base (.int .i64 0)], true⟩ := by kernel_rfl
theorem us49 : isStruct Try.prog 49 = true := by kernel_rfl
theorem fl49 : flatT Try.prog 5 49 = some [.i, .i] := by kernel_rfl
theorem eg49 : Try.prog.eqGuardType Try.prog.depth 49 = false := by kernel_rfl
theorem pl49 : placesOf Try.prog 49 = some [(0, 1), (1, 1)] := by kernel_rfl
theorem fo49_0 : fieldOf Try.prog 49 0 = some (0, 1) := by kernel_rfl
theorem fo49_1 : fieldOf Try.prog 49 1 = some (1, 1) := by kernel_rfl
theorem ti57 : tiOf Try.prog 57 = some ⟨2, 16, [.base (.int .i64 0), .base (.int .i64 0)], true⟩ := by kernel_rfl
theorem us57 : isStruct Try.prog 57 = true := by kernel_rfl
theorem fl57 : flatT Try.prog 5 57 = some [.i, .i] := by kernel_rfl
theorem eg57 : Try.prog.eqGuardType Try.prog.depth 57 = false := by kernel_rfl
theorem pl57 : placesOf Try.prog 57 = some [(0, 1), (1, 1)] := by kernel_rfl
theorem fo57_0 : fieldOf Try.prog 57 0 = some (0, 1) := by kernel_rfl
theorem fo57_1 : fieldOf Try.prog 57 1 = some (1, 1) := by kernel_rfl
theorem un68 : Try.prog.underlying 68 = some (.int .u64) := by kernel_rfl
theorem ti68 : tiOf Try.prog 68 = some ⟨1, 8, [.base (.int .u64 0)], false⟩ := by kernel_rfl
attribute [go_sem] un2 ti2 un3 ti3 un4 ti4 un5 ti5
attribute [go_sem] un22 ti22 el22 sz22 un23 ti23
attribute [go_sem] el23 sz23 un26 ti26 un29 ti29 el29 sz29
attribute [go_sem] ti31 us31 eg31 pl31 fo31_0 fo31_1 fo31_2 un33 ti33
attribute [go_sem] el33 sz33 ti49 us49 fl49
attribute [go_sem] eg49 pl49 fo49_0 fo49_1 ti57
attribute [go_sem] us57 fl57 eg57 pl57 fo57_0 fo57_1 un68 ti68
end Go.Vai
