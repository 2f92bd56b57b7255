import Derived.Test.YtmjnimnnlogomaaProg
import Derived.Test.YtmjnimnnlogomaaVaiE
namespace Go.Vai
open Go.Proofs Go.Vai
set_option linter.unusedSimpArgs false
set_option linter.unusedVariables false
theorem un2 : Try.prog.underlying 2 = some (.int .i64) := by kernel_rfl
theorem ti2 : tiOf Try.prog 2 = some ⟨1, 8, [.base (.int .i64 0)], false⟩ := by kernel_rfl
theorem un3 : Try.prog.underlying 3 = some (.int .i64) := by kernel_rfl
theorem ti3 : tiOf Try.prog 3 = some ⟨1, 8, [.base (.int .i64 0)], false⟩ := by kernel_rfl
theorem un4 : Try.prog.underlying 4 = some .bool := by kernel_rfl
theorem ti4 : tiOf Try.prog 4 = some ⟨1, 1, [.base (.bool false)], false⟩ := by kernel_rfl
theorem un22 : Try.prog.underlying 22 = some (.slice 48) := by kernel_rfl
theorem ti22 : tiOf Try.prog 22 = some ⟨1, 24, [.sl 3 true []], false⟩ := by kernel_rfl
theorem el22 : elOf Try.prog 22 = some 48 := by kernel_rfl
theorem sz22 : szOf Try.prog 22 = 3 := by kernel_rfl
theorem un25 : Try.prog.underlying 25 = some (.slice 3) := by kernel_rfl
theorem ti25 : tiOf Try.prog 25 = some ⟨1, 24, [.sl 1 true []], false⟩ := by kernel_rfl
theorem el25 : elOf Try.prog 25 = some 3 := by kernel_rfl
theorem sz25 : szOf Try.prog 25 = 1 := by kernel_rfl
theorem ti27 : tiOf Try.prog 27 = some ⟨3, 72, [.sl 3 true [], .sl 1 true [], .sl 3 true []], true⟩ := by kernel_rfl
theorem us27 : isStruct Try.prog 27 = true := by kernel_rfl
theorem eg27 : Try.prog.eqGuardType Try.prog.depth 27 = false := by kernel_rfl
theorem pl27 : placesOf Try.prog 27 = some [(0, 1), (1, 1), (2, 1)] := by kernel_rfl
theorem fo27_0 : fieldOf Try.prog 27 0 = some (0, 1) := by kernel_rfl
theorem fo27_1 : fieldOf Try.prog 27 1 = some (1, 1) := by kernel_rfl
theorem fo27_2 : fieldOf Try.prog 27 2 = some (2, 1) := by kernel_rfl
theorem un28 : Try.prog.underlying 28 = some (.int .i64) := by kernel_rfl
theorem ti28 : tiOf Try.prog 28 = some ⟨1, 8, [.base (.int .i64 0)], false⟩ := by kernel_rfl
theorem un42 : Try.prog.underlying 42 = some (.slice 62) := by kernel_rfl
theorem ti42 : tiOf Try.prog 42 = some ⟨1, 24, [.sl 2 true []], false⟩ := by kernel_rfl
theorem el42 : elOf Try.prog 42 = some 62 := by kernel_rfl
theorem sz42 : szOf Try.prog 42 = 2 := by kernel_rfl
theorem un46 : Try.prog.underlying 46 = some (.slice 67) := by kernel_rfl
theorem ti46 : tiOf Try.prog 46 = some ⟨1, 24, [.sl 2 true []], false⟩ := by kernel_rfl
theorem el46 : elOf Try.prog 46 = some 67 := by kernel_rfl
theorem sz46 : szOf Try.prog 46 = 2 := by kernel_rfl
theorem ti48 : tiOf Try.prog 48 = some ⟨3, 40, [.base (.int .i64 0), .base (.int .i64 0), .sl 2 true []], true⟩ := by kernel_rfl
theorem us48 : isStruct Try.prog 48 = true := by kernel_rfl
theorem eg48 : Try.prog.eqGuardType Try.prog.depth 48 = false := by kernel_rfl
theorem pl48 : placesOf Try.prog 48 = some [(0, 1), (1, 1), (2, 1)] := by kernel_rfl
theorem fo48_0 : fieldOf Try.prog 48 0 = some (0, 1) := by kernel_rfl
theorem fo48_1 : fieldOf Try.prog 48 1 = some (1, 1) := by kernel_rfl
theorem fo48_2 : fieldOf Try.prog 48 2 = some (2, 1) := by kernel_rfl
theorem ti62 : tiOf Try.prog 62 = some ⟨2, 16, [.base (.int .i64 0), .base (.int .i64 0)], true⟩ := by kernel_rfl
theorem us62 : isStruct Try.prog 62 = true := by kernel_rfl
theorem fl62 : flatT Try.prog 5 62 = some [.i, .i] := by kernel_rfl
theorem eg62 : Try.prog.eqGuardType Try.prog.depth 62 = false := by kernel_rfl
theorem pl62 : placesOf Try.prog 62 = some [(0, 1), (1, 1)] := by kernel_rfl
theorem ti67 : tiOf Try.prog 67 = some ⟨2, 16, [.base (.int .i64 0), .base (.int .i64 0)], true⟩ := by kernel_rfl
theorem us67 : isStruct Try.prog 67 = true := by kernel_rfl
theorem fl67 : flatT Try.prog 5 67 = some [.i, .i] := by kernel_rfl
theorem eg67 : Try.prog.eqGuardType Try.prog.depth 67 = false := by kernel_rfl
theorem pl67 : placesOf Try.prog 67 = some [(0, 1), (1, 1)] := by kernel_rfl
theorem fo67_0 : fieldOf Try.prog 67 0 = some (0, 1) := by kernel_rfl
theorem fo67_1 : fieldOf Try.prog 67 1 = some (1, 1) := by kernel_rfl
theorem un69 : Try.prog.underlying 69 = some (.slice 22) := by kernel_rfl
theorem ti69 : tiOf Try.prog 69 = some ⟨1, 24, [.sl 1 true []], false⟩ := by kernel_rfl
theorem el69 : elOf Try.prog 69 = some 22 := by kernel_rfl
theorem sz69 : szOf Try.prog 69 = 1 := by kernel_rfl
theorem un78 : Try.prog.underlying 78 = some (.int .u64) := by kernel_rfl
theorem ti78 : tiOf Try.prog 78 = some ⟨1, 8, [.base (.int .u64 0)], false⟩ := by kernel_rfl
attribute [go_sem] un2 ti2 un3 ti3 un4 ti4
attribute [go_sem] un22 ti22 el22 sz22 un25 ti25
attribute [go_sem] el25 sz25 ti27 us27 eg27
attribute [go_sem] pl27 fo27_0 fo27_1 fo27_2 un28 ti28 un42 ti42 el42 sz42 un46 ti46
attribute [go_sem] el46 sz46 ti48 us48 eg48
attribute [go_sem] pl48 fo48_0 fo48_1 fo48_2 ti62
attribute [go_sem] us62 fl62 eg62 pl62
attribute [go_sem] ti67 us67 fl67 eg67 pl67 fo67_0 fo67_1 un69 ti69 el69 sz69
attribute [go_sem] un78 ti78
end Go.Vai
