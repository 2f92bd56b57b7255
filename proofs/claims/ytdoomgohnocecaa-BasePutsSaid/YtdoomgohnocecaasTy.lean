import Derived.Test.YtdoomgohnocecaaProg
import Derived.Test.YtdoomgohnocecaaVaiE
namespace Go.Vai
open Go.Proofs Go.Vai
set_option linter.unusedSimpArgs false
set_option linter.unusedVariables false
theorem un2 : Try.prog.underlying 2 = some (.int .i64) := by kernel_rfl
theorem ti2 : tiOf Try.prog 2 = some ⟨1, 8, [.base (.int .i64 0)], false⟩ := by kernel_rfl
theorem un3 : Try.prog.underlying 3 = some (.int .i64) := by kernel_rfl
theorem ti3 : tiOf Try.prog 3 = some ⟨1, 8, [.base (.int .i64 0)], false⟩ := by kernel_rfl
theorem un4 : Try.prog.underlying 4 = some .bool := by kernel_rfl
theorem ti4 : tiOf Try.prog 4 = some ⟨1, 1, [.base (.bool false)], false⟩ := by kernel_rfl
theorem un5 : Try.prog.underlying 5 = some (.int .u8) := by kernel_rfl
theorem ti5 : tiOf Try.prog 5 = some ⟨1, 1, [.base (.int .u8 0)], false⟩ := by kernel_rfl
theorem un22 : Try.prog.underlying 22 = some (.slice 50) := by kernel_rfl
theorem ti22 : tiOf Try.prog 22 = some ⟨1, 24, [.sl 3 true []], false⟩ := by kernel_rfl
theorem el22 : elOf Try.prog 22 = some 50 := by kernel_rfl
theorem sz22 : szOf Try.prog 22 = 3 := by kernel_rfl
theorem un23 : Try.prog.underlying 23 = some (.slice 61) := by kernel_rfl
theorem ti23 : tiOf Try.prog 23 = some ⟨1, 24, [.sl 2 true []], false⟩ := by kernel_rfl
theorem el23 : elOf Try.prog 23 = some 61 := by kernel_rfl
theorem sz23 : szOf Try.prog 23 = 2 := by kernel_rfl
theorem ti25 : tiOf Try.prog 25 = some ⟨4, 64, [.sl 3 true [], .base (.int .i64 0), .base (.int .i64 0), .sl 2 true []], true⟩ := by kernel_rfl
theorem us25 : isStruct Try.prog 25 = true := by kernel_rfl
theorem eg25 : Try.prog.eqGuardType Try.prog.depth 25 = false := by kernel_rfl
theorem pl25 : placesOf Try.prog 25 = some [(0, 1), (1, 1), (2, 1), (3, 1)] := by kernel_rfl
theorem fo25_0 : fieldOf Try.prog 25 0 = some (0, 1) := by kernel_rfl
theorem fo25_1 : fieldOf Try.prog 25 1 = some (1, 1) := by kernel_rfl
theorem fo25_2 : fieldOf Try.prog 25 2 = some (2, 1) := by kernel_rfl
theorem fo25_3 : fieldOf Try.prog 25 3 = some (3, 1) := by kernel_rfl
theorem un26 : Try.prog.underlying 26 = some (.slice 52) := by kernel_rfl
theorem ti26 : tiOf Try.prog 26 = some ⟨1, 24, [.sl 6 true []], false⟩ := by kernel_rfl
theorem el26 : elOf Try.prog 26 = some 52 := by kernel_rfl
theorem sz26 : szOf Try.prog 26 = 6 := by kernel_rfl
theorem un30 : Try.prog.underlying 30 = some (.int .i64) := by kernel_rfl
theorem ti30 : tiOf Try.prog 30 = some ⟨1, 8, [.base (.int .i64 0)], false⟩ := by kernel_rfl
theorem un37 : Try.prog.underlying 37 = some (.slice 5) := by kernel_rfl
theorem ti37 : tiOf Try.prog 37 = some ⟨1, 24, [.sl 1 true []], false⟩ := by kernel_rfl
theorem el37 : elOf Try.prog 37 = some 5 := by kernel_rfl
theorem sz37 : szOf Try.prog 37 = 1 := by kernel_rfl
theorem un48 : Try.prog.underlying 48 = some (.slice 98) := by kernel_rfl
theorem ti48 : tiOf Try.prog 48 = some ⟨1, 24, [.sl 2 true []], false⟩ := by kernel_rfl
theorem el48 : elOf Try.prog 48 = some 98 := by kernel_rfl
theorem sz48 : szOf Try.prog 48 = 2 := by kernel_rfl
theorem ti50 : tiOf Try.prog 50 = some ⟨3, 40, [.base (.int .i64 0), .base (.int .i64 0), .sl 2 true []], true⟩ := by kernel_rfl
theorem us50 : isStruct Try.prog 50 = true := by kernel_rfl
theorem eg50 : Try.prog.eqGuardType Try.prog.depth 50 = false := by kernel_rfl
theorem pl50 : placesOf Try.prog 50 = some [(0, 1), (1, 1), (2, 1)] := by kernel_rfl
theorem fo50_0 : fieldOf Try.prog 50 0 = some (0, 1) := by kernel_rfl
theorem fo50_1 : fieldOf Try.prog 50 1 = some (1, 1) := by kernel_rfl
theorem fo50_2 : fieldOf Try.prog 50 2 = some (2, 1) := by kernel_rfl
theorem ti52 : tiOf Try.prog 52 = some ⟨6, 64, [.base (.int .i64 0), .base (.int .i64 0), .base (.int .i64 0), .sl 2 true [], .base (.int .i64 0), .base (.int .i64 0)], true⟩ := by kernel_rfl
theorem us52 : isStruct Try.prog 52 = true := by kernel_rfl
theorem eg52 : Try.prog.eqGuardType Try.prog.depth 52 = false := by kernel_rfl
theorem pl52 : placesOf Try.prog 52 = some [(0, 1), (1, 3), (4, 1), (5, 1)] := by kernel_rfl
theorem fo52_0 : fieldOf Try.prog 52 0 = some (0, 1) := by kernel_rfl
theorem fo52_1 : fieldOf Try.prog 52 1 = some (1, 3) := by kernel_rfl
theorem fo52_2 : fieldOf Try.prog 52 2 = some (4, 1) := by kernel_rfl
theorem fo52_3 : fieldOf Try.prog 52 3 = some (5, 1) := by kernel_rfl
theorem un57 : Try.prog.underlying 57 = some (.pointer 25) := by kernel_rfl
theorem ti57 : tiOf Try.prog 57 = some ⟨1, 8, [.base (.pointer none)], false⟩ := by kernel_rfl
theorem ti61 : tiOf Try.prog 61 = some ⟨2, 16, [.base (.int .i64 0), .base (.int .i64 0)], true⟩ := by kernel_rfl
theorem us61 : isStruct Try.prog 61 = true := by kernel_rfl
theorem fl61 : flatT Try.prog 5 61 = some [.i, .i] := by kernel_rfl
theorem eg61 : Try.prog.eqGuardType Try.prog.depth 61 = false := by kernel_rfl
theorem pl61 : placesOf Try.prog 61 = some [(0, 1), (1, 1)] := by kernel_rfl
theorem fo61_0 : fieldOf Try.prog 61 0 = some (0, 1) := by kernel_rfl
theorem fo61_1 : fieldOf Try.prog 61 1 = some (1, 1) := by kernel_rfl
theorem un66 : Try.prog.underlying 66 = some (.pointer 101) := by kernel_rfl
theorem ti66 : tiOf Try.prog 66 = some ⟨1, 8, [.base (.pointer none)], false⟩ := by kernel_rfl
theorem un68 : Try.prog.underlying 68 = some (.int .u64) := by kernel_rfl
theorem ti68 : tiOf Try.prog 68 = some ⟨1, 8, [.base (.int .u64 0)], false⟩ := by kernel_rfl
theorem ti73 : tiOf Try.prog 73 = some ⟨3, 40, [.sl 1 true [], .base (.int .i64 0), .base (.bool false)], true⟩ := by kernel_rfl
theorem us73 : isStruct Try.prog 73 = true := by kernel_rfl
theorem eg73 : Try.prog.eqGuardType Try.prog.depth 73 = false := by kernel_rfl
theorem pl73 : placesOf Try.prog 73 = some [(0, 1), (1, 1), (2, 1)] := by kernel_rfl
theorem fo73_0 : fieldOf Try.prog 73 0 = some (0, 1) := by kernel_rfl
theorem fo73_1 : fieldOf Try.prog 73 1 = some (1, 1) := by kernel_rfl
theorem fo73_2 : fieldOf Try.prog 73 2 = some (2, 1) := by kernel_rfl
theorem un91 : Try.prog.underlying 91 = some (.pointer 3) := by kernel_rfl
theorem ti91 : tiOf Try.prog 91 = some ⟨1, 8, [.base (.pointer none)], false⟩ := by kernel_rfl
theorem ti98 : tiOf Try.prog 98 = some ⟨2, 16, [.base (.int .i64 0), .base (.int .i64 0)], true⟩ := by kernel_rfl
theorem us98 : isStruct Try.prog 98 = true := by kernel_rfl
theorem fl98 : flatT Try.prog 5 98 = some [.i, .i] := by kernel_rfl
theorem eg98 : Try.prog.eqGuardType Try.prog.depth 98 = false := by kernel_rfl
theorem pl98 : placesOf Try.prog 98 = some [(0, 1), (1, 1)] := by kernel_rfl
theorem fo98_0 : fieldOf Try.prog 98 0 = some (0, 1) := by kernel_rfl
theorem fo98_1 : fieldOf Try.prog 98 1 = some (1, 1) := by kernel_rfl
theorem ti101 : tiOf Try.prog 101 = some ⟨2, 32, [.sl 1 true [], .base (.bool false)], true⟩ := by kernel_rfl
theorem us101 : isStruct Try.prog 101 = true := by kernel_rfl
theorem eg101 : Try.prog.eqGuardType Try.prog.depth 101 = false := by kernel_rfl
theorem pl101 : placesOf Try.prog 101 = some [(0, 1), (1, 1)] := by kernel_rfl
theorem fo101_0 : fieldOf Try.prog 101 0 = some (0, 1) := by kernel_rfl
theorem fo101_1 : fieldOf Try.prog 101 1 = some (1, 1) := by kernel_rfl
theorem un103 : Try.prog.underlying 103 = some (.int .u64) := by kernel_rfl
theorem ti103 : tiOf Try.prog 103 = some ⟨1, 8, [.base (.int .u64 0)], false⟩ := by kernel_rfl
attribute [go_sem] un2 ti2 un3 ti3 un4 ti4 un5 ti5
attribute [go_sem] un22 ti22 el22 sz22 un23 ti23
attribute [go_sem] el23 sz23 ti25 us25
attribute [go_sem] eg25 pl25 fo25_0 fo25_1 fo25_2 fo25_3 un26 ti26 el26 sz26 un30 ti30
attribute [go_sem] un37 ti37 el37 sz37 un48 ti48 el48 sz48
attribute [go_sem] ti50 us50 eg50 pl50 fo50_0 fo50_1 fo50_2
attribute [go_sem] ti52 us52 eg52 pl52 fo52_0 fo52_1
attribute [go_sem] fo52_2 fo52_3 un57 ti57 ti61
attribute [go_sem] us61 fl61 eg61 pl61 fo61_0 fo61_1 un66 ti66 un68 ti68
attribute [go_sem] ti73 us73 eg73 pl73 fo73_0 fo73_1 fo73_2
attribute [go_sem] un91 ti91 ti98 us98 fl98
attribute [go_sem] eg98 pl98 fo98_0 fo98_1 ti101 us101
attribute [go_sem] eg101 pl101 fo101_0 fo101_1 un103 ti103
end Go.Vai
