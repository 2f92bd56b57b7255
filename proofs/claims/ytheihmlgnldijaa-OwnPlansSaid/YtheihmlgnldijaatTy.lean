import Derived.Test.YtheihmlgnldijaaProg
import Derived.Test.YtheihmlgnldijaaVaiE
namespace Go.Vai
open Go.Proofs Go.Vai
set_option linter.unusedSimpArgs false
set_option linter.unusedVariables false
theorem un2 : Try.prog.underlying 2 = some (.int .i64) := by kernel_rfl
theorem ti2 : tiOf Try.prog 2 = some ⟨1, 8, [.base (.int .i64 0)], false⟩ := by kernel_rfl
theorem un3 : Try.prog.underlying 3 = some (.int .i64) := by kernel_rfl
theorem ti3 : tiOf Try.prog 3 = some ⟨1, 8, [.base (.int .i64 0)], false⟩ := by kernel_rfl
theorem un4 : Try.prog.underlying 4 = some .bool := by kernel_rfl
theorem ti4 : tiOf Try.prog 4 = some ⟨1, 1, [.base (.bool false)], false⟩ := by kernel_rfl
theorem un5 : Try.prog.underlying 5 = some (.int .u8) := by kernel_rfl
theorem ti5 : tiOf Try.prog 5 = some ⟨1, 1, [.base (.int .u8 0)], false⟩ := by kernel_rfl
theorem un6 : Try.prog.underlying 6 = some (.int .u8) := by kernel_rfl
theorem ti6 : tiOf Try.prog 6 = some ⟨1, 1, [.base (.int .u8 0)], false⟩ := by kernel_rfl
theorem ti7 : tiOf Try.prog 7 = some ⟨4, 24, [.base (.int .i64 0), .base (.int .i64 0), .base (.bool false), .base (.int .u8 0)], true⟩ := by kernel_rfl
theorem us7 : isStruct Try.prog 7 = true := by kernel_rfl
theorem fl7 : flatT Try.prog 5 7 = some [.i, .i, .b, .i] := by kernel_rfl
theorem eg7 : Try.prog.eqGuardType Try.prog.depth 7 = false := by kernel_rfl
theorem pl7 : placesOf Try.prog 7 = some [(0, 1), (1, 1), (2, 1), (3, 1)] := by kernel_rfl
theorem un22 : Try.prog.underlying 22 = some (.slice 33) := by kernel_rfl
theorem ti22 : tiOf Try.prog 22 = some ⟨1, 24, [.sl 3 true []], false⟩ := by kernel_rfl
theorem el22 : elOf Try.prog 22 = some 33 := by kernel_rfl
theorem sz22 : szOf Try.prog 22 = 3 := by kernel_rfl
theorem un23 : Try.prog.underlying 23 = some (.slice 64) := by kernel_rfl
theorem ti23 : tiOf Try.prog 23 = some ⟨1, 24, [.sl 8 true []], false⟩ := by kernel_rfl
theorem el23 : elOf Try.prog 23 = some 64 := by kernel_rfl
theorem sz23 : szOf Try.prog 23 = 8 := by kernel_rfl
theorem ti25 : tiOf Try.prog 25 = some ⟨2, 16, [.base (.int .i64 0), .base (.int .i64 0)], true⟩ := by kernel_rfl
theorem us25 : isStruct Try.prog 25 = true := by kernel_rfl
theorem fl25 : flatT Try.prog 5 25 = some [.i, .i] := by kernel_rfl
theorem eg25 : Try.prog.eqGuardType Try.prog.depth 25 = false := by kernel_rfl
theorem pl25 : placesOf Try.prog 25 = some [(0, 1), (1, 1)] := by kernel_rfl
theorem fo25_0 : fieldOf Try.prog 25 0 = some (0, 1) := by kernel_rfl
theorem fo25_1 : fieldOf Try.prog 25 1 = some (1, 1) := by kernel_rfl
theorem ti27 : tiOf Try.prog 27 = some ⟨4, 32, [.base (.int .i64 0), .base (.int .i64 0), .base (.int .i64 0), .base (.int .i64 0)], true⟩ := by kernel_rfl
theorem us27 : isStruct Try.prog 27 = true := by kernel_rfl
theorem fl27 : flatT Try.prog 5 27 = some [.i, .i, .i, .i] := by kernel_rfl
theorem eg27 : Try.prog.eqGuardType Try.prog.depth 27 = false := by kernel_rfl
theorem pl27 : placesOf Try.prog 27 = some [(0, 1), (1, 2), (3, 1)] := by kernel_rfl
theorem fo27_0 : fieldOf Try.prog 27 0 = some (0, 1) := by kernel_rfl
theorem fo27_1 : fieldOf Try.prog 27 1 = some (1, 2) := by kernel_rfl
theorem un31 : Try.prog.underlying 31 = some (.slice 61) := by kernel_rfl
theorem ti31 : tiOf Try.prog 31 = some ⟨1, 24, [.sl 2 true []], false⟩ := by kernel_rfl
theorem el31 : elOf Try.prog 31 = some 61 := by kernel_rfl
theorem sz31 : szOf Try.prog 31 = 2 := by kernel_rfl
theorem ti33 : tiOf Try.prog 33 = some ⟨3, 40, [.base (.int .i64 0), .base (.int .i64 0), .sl 2 true []], true⟩ := by kernel_rfl
theorem us33 : isStruct Try.prog 33 = true := by kernel_rfl
theorem eg33 : Try.prog.eqGuardType Try.prog.depth 33 = false := by kernel_rfl
theorem pl33 : placesOf Try.prog 33 = some [(0, 1), (1, 1), (2, 1)] := by kernel_rfl
theorem fo33_0 : fieldOf Try.prog 33 0 = some (0, 1) := by kernel_rfl
theorem fo33_1 : fieldOf Try.prog 33 1 = some (1, 1) := by kernel_rfl
theorem fo33_2 : fieldOf Try.prog 33 2 = some (2, 1) := by kernel_rfl
theorem un34 : Try.prog.underlying 34 = some (.int .i64) := by kernel_rfl
theorem ti34 : tiOf Try.prog 34 = some ⟨1, 8, [.base (.int .i64 0)], false⟩ := by kernel_rfl
theorem un43 : Try.prog.underlying 43 = some (.slice 52) := by kernel_rfl
theorem ti43 : tiOf Try.prog 43 = some ⟨1, 24, [.sl 6 true []], false⟩ := by kernel_rfl
theorem el43 : elOf Try.prog 43 = some 52 := by kernel_rfl
theorem sz43 : szOf Try.prog 43 = 6 := by kernel_rfl
theorem ti52 : tiOf Try.prog 52 = some ⟨6, 64, [.base (.int .i64 0), .base (.int .i64 0), .base (.int .i64 0), .sl 2 true [], .base (.int .i64 0), .base (.int .i64 0)], true⟩ := by kernel_rfl
theorem us52 : isStruct Try.prog 52 = true := by kernel_rfl
theorem eg52 : Try.prog.eqGuardType Try.prog.depth 52 = false := by kernel_rfl
theorem pl52 : placesOf Try.prog 52 = some [(0, 1), (1, 3), (4, 1), (5, 1)] := by kernel_rfl
theorem fo52_0 : fieldOf Try.prog 52 0 = some (0, 1) := by kernel_rfl
theorem fo52_1 : fieldOf Try.prog 52 1 = some (1, 3) := by kernel_rfl
theorem fo52_2 : fieldOf Try.prog 52 2 = some (4, 1) := by kernel_rfl
theorem fo52_3 : fieldOf Try.prog 52 3 = some (5, 1) := by kernel_rfl
theorem ti61 : tiOf Try.prog 61 = some ⟨2, 16, [.base (.int .i64 0), .base (.int .i64 0)], true⟩ := by kernel_rfl
theorem us61 : isStruct Try.prog 61 = true := by kernel_rfl
theorem fl61 : flatT Try.prog 5 61 = some [.i, .i] := by kernel_rfl
theorem eg61 : Try.prog.eqGuardType Try.prog.depth 61 = false := by kernel_rfl
theorem pl61 : placesOf Try.prog 61 = some [(0, 1), (1, 1)] := by kernel_rfl
theorem fo61_0 : fieldOf Try.prog 61 0 = some (0, 1) := by kernel_rfl
theorem fo61_1 : fieldOf Try.prog 61 1 = some (1, 1) := by kernel_rfl
theorem ti64 : tiOf Try.prog 64 = some ⟨8, 56, [.base (.int .i64 0), .base (.int .i64 0), .base (.int .i64 0), .base (.int .i64 0), .base (.bool false), .base (.bool false), .base (.int .i64 0), .base (.bool false)], true⟩ := by kernel_rfl
theorem us64 : isStruct Try.prog 64 = true := by kernel_rfl
theorem fl64 : flatT Try.prog 5 64 = some [.i, .i, .i, .i, .b, .b, .i, .b] := by kernel_rfl
theorem eg64 : Try.prog.eqGuardType Try.prog.depth 64 = false := by kernel_rfl
theorem pl64 : placesOf Try.prog 64 = some [(0, 1), (1, 1), (2, 1), (3, 1), (4, 1), (5, 1), (6, 1), (7, 1)] := by kernel_rfl
theorem fo64_0 : fieldOf Try.prog 64 0 = some (0, 1) := by kernel_rfl
theorem fo64_1 : fieldOf Try.prog 64 1 = some (1, 1) := by kernel_rfl
theorem fo64_2 : fieldOf Try.prog 64 2 = some (2, 1) := by kernel_rfl
theorem fo64_3 : fieldOf Try.prog 64 3 = some (3, 1) := by kernel_rfl
theorem fo64_4 : fieldOf Try.prog 64 4 = some (4, 1) := by kernel_rfl
theorem fo64_5 : fieldOf Try.prog 64 5 = some (5, 1) := by kernel_rfl
theorem fo64_6 : fieldOf Try.prog 64 6 = some (6, 1) := by kernel_rfl
theorem fo64_7 : fieldOf Try.prog 64 7 = some (7, 1) := by kernel_rfl
theorem un99 : Try.prog.underlying 99 = some (.int .u64) := by kernel_rfl
theorem ti99 : tiOf Try.prog 99 = some ⟨1, 8, [.base (.int .u64 0)], false⟩ := by kernel_rfl
attribute [go_sem] un2 ti2 un3 ti3 un4 ti4 un5 ti5 un6 ti6 ti7 us7
attribute [go_sem] fl7 eg7 pl7
attribute [go_sem] un22 ti22 el22 sz22 un23 ti23
attribute [go_sem] el23 sz23 ti25 us25 fl25
attribute [go_sem] eg25 pl25 fo25_0 fo25_1
attribute [go_sem] ti27 us27 fl27 eg27 pl27 fo27_0 fo27_1 un31 ti31 el31 sz31
attribute [go_sem] ti33 us33 eg33 pl33 fo33_0
attribute [go_sem] fo33_1 fo33_2 un34 ti34 un43 ti43 el43 sz43
attribute [go_sem] ti52 us52 eg52 pl52 fo52_0 fo52_1 fo52_2 fo52_3
attribute [go_sem] ti61 us61 fl61 eg61 pl61
attribute [go_sem] fo61_0 fo61_1
attribute [go_sem] ti64 us64 fl64 eg64 pl64 fo64_0 fo64_1 fo64_2 fo64_3
attribute [go_sem] fo64_4 fo64_5 fo64_6 fo64_7 un99 ti99
end Go.Vai
