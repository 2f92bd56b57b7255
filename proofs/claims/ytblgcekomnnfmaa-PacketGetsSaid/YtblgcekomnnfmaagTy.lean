import Derived.Test.YtblgcekomnnfmaaProg
import Derived.Test.YtblgcekomnnfmaaVaiD
namespace Go.Vai
open Go.Proofs Go.Vai
set_option linter.unusedSimpArgs false
set_option linter.unusedVariables false
theorem u3 : Try.prog.underlying 3 = some (.int .i64) := by kernel_rfl
theorem ti3 : tiOf Try.prog 3 = some ⟨1, 8, [.base (.int .i64 0)], false⟩ := by kernel_rfl
theorem u4 : Try.prog.underlying 4 = some .bool := by kernel_rfl
theorem ti4 : tiOf Try.prog 4 = some ⟨1, 1, [.base (.bool false)], false⟩ := by kernel_rfl
theorem u5 : Try.prog.underlying 5 = some (.int .u8) := by kernel_rfl
theorem ti5 : tiOf Try.prog 5 = some ⟨1, 1, [.base (.int .u8 0)], false⟩ := by kernel_rfl
theorem u22 : Try.prog.underlying 22 = some (.slice 5) := by kernel_rfl
theorem ti22 : tiOf Try.prog 22 = some ⟨1, 24, [.sl 1 true []], false⟩ := by kernel_rfl
theorem el22 : elOf Try.prog 22 = some 5 := by kernel_rfl
theorem sz22 : szOf Try.prog 22 = 1 := by kernel_rfl
theorem u24 : Try.prog.underlying 24 = some (.slice 74) := by kernel_rfl
theorem ti24 : tiOf Try.prog 24 = some ⟨1, 24, [.sl 2 true []], false⟩ := by kernel_rfl
theorem el24 : elOf Try.prog 24 = some 74 := by kernel_rfl
theorem u25 : Try.prog.underlying 25 = some (.slice 76) := by kernel_rfl
theorem ti25 : tiOf Try.prog 25 = some ⟨1, 24, [.sl 2 true []], false⟩ := by kernel_rfl
theorem el25 : elOf Try.prog 25 = some 76 := by kernel_rfl
theorem u26 : Try.prog.underlying 26 = some (.slice 79) := by kernel_rfl
theorem ti26 : tiOf Try.prog 26 = some ⟨1, 24, [.sl 3 true []], false⟩ := by kernel_rfl
theorem el26 : elOf Try.prog 26 = some 79 := by kernel_rfl
theorem ti28 : tiOf Try.prog 28 = some ⟨10, 128, [.base (.int .i64 0), .base (.int .i64 0), .base (.int .i64 0), .base (.int .i64 0), .base (.int .i64 0), .base (.int .i64 0), .base (.int .i64 0), .sl 2 true [], .sl 2 true [], .sl 3 true []], true⟩ := by kernel_rfl
theorem pl28 : placesOf Try.prog 28 = some [(0, 1), (1, 1), (2, 1), (3, 1), (4, 1), (5, 1), (6, 1), (7, 1), (8, 1), (9, 1)] := by kernel_rfl
theorem fo28_0 : fieldOf Try.prog 28 0 = some (0, 1) := by kernel_rfl
theorem fo28_1 : fieldOf Try.prog 28 1 = some (1, 1) := by kernel_rfl
theorem fo28_2 : fieldOf Try.prog 28 2 = some (2, 1) := by kernel_rfl
theorem fo28_3 : fieldOf Try.prog 28 3 = some (3, 1) := by kernel_rfl
theorem fo28_4 : fieldOf Try.prog 28 4 = some (4, 1) := by kernel_rfl
theorem fo28_5 : fieldOf Try.prog 28 5 = some (5, 1) := by kernel_rfl
theorem fo28_6 : fieldOf Try.prog 28 6 = some (6, 1) := by kernel_rfl
theorem fo28_7 : fieldOf Try.prog 28 7 = some (7, 1) := by kernel_rfl
theorem fo28_8 : fieldOf Try.prog 28 8 = some (8, 1) := by kernel_rfl
theorem fo28_9 : fieldOf Try.prog 28 9 = some (9, 1) := by kernel_rfl
theorem u40 : Try.prog.underlying 40 = some (.int .u32) := by kernel_rfl
theorem u42 : Try.prog.underlying 42 = some (.int .u64) := by kernel_rfl
theorem u47 : Try.prog.underlying 47 = some (.slice 22) := by kernel_rfl
theorem el47 : elOf Try.prog 47 = some 22 := by kernel_rfl
theorem u69 : Try.prog.underlying 69 = some (.pointer 120) := by kernel_rfl
theorem u71 : Try.prog.underlying 71 = some (.int .u64) := by kernel_rfl
theorem ti74 : tiOf Try.prog 74 = some ⟨2, 16, [.base (.int .i64 0), .base (.int .i64 0)], true⟩ := by kernel_rfl
theorem us74 : isStruct Try.prog 74 = true := by kernel_rfl
theorem fl74 : flatT Try.prog 5 74 = some [.i, .i] := by kernel_rfl
theorem eg74 : Try.prog.eqGuardType Try.prog.depth 74 = false := by kernel_rfl
theorem pl74 : placesOf Try.prog 74 = some [(0, 1), (1, 1)] := by kernel_rfl
theorem fo74_0 : fieldOf Try.prog 74 0 = some (0, 1) := by kernel_rfl
theorem fo74_1 : fieldOf Try.prog 74 1 = some (1, 1) := by kernel_rfl
theorem ti76 : tiOf Try.prog 76 = some ⟨2, 16, [.base (.int .i64 0), .base (.int .i64 0)], true⟩ := by kernel_rfl
theorem us76 : isStruct Try.prog 76 = true := by kernel_rfl
theorem fl76 : flatT Try.prog 5 76 = some [.i, .i] := by kernel_rfl
theorem eg76 : Try.prog.eqGuardType Try.prog.depth 76 = false := by kernel_rfl
theorem pl76 : placesOf Try.prog 76 = some [(0, 1), (1, 1)] := by kernel_rfl
theorem fo76_0 : fieldOf Try.prog 76 0 = some (0, 1) := by kernel_rfl
theorem fo76_1 : fieldOf Try.prog 76 1 = some (1, 1) := by kernel_rfl
theorem u77 : Try.prog.underlying 77 = some (.slice 124) := by kernel_rfl
theorem ti77 : tiOf Try.prog 77 = some ⟨1, 24, [.sl 2 true []], false⟩ := by kernel_rfl
theorem el77 : elOf Try.prog 77 = some 124 := by kernel_rfl
theorem ti79 : tiOf Try.prog 79 = some ⟨3, 40, [.base (.int .i64 0), .base (.int .i64 0), .sl 2 true []], true⟩ := by kernel_rfl
theorem pl79 : placesOf Try.prog 79 = some [(0, 1), (1, 1), (2, 1)] := by kernel_rfl
theorem fo79_0 : fieldOf Try.prog 79 0 = some (0, 1) := by kernel_rfl
theorem fo79_1 : fieldOf Try.prog 79 1 = some (1, 1) := by kernel_rfl
theorem fo79_2 : fieldOf Try.prog 79 2 = some (2, 1) := by kernel_rfl
theorem ti120 : tiOf Try.prog 120 = some ⟨2, 32, [.sl 1 true [], .base (.bool false)], true⟩ := by kernel_rfl
theorem pl120 : placesOf Try.prog 120 = some [(0, 1), (1, 1)] := by kernel_rfl
theorem fo120_0 : fieldOf Try.prog 120 0 = some (0, 1) := by kernel_rfl
theorem fo120_1 : fieldOf Try.prog 120 1 = some (1, 1) := by kernel_rfl
theorem ti124 : tiOf Try.prog 124 = some ⟨2, 16, [.base (.int .i64 0), .base (.int .i64 0)], true⟩ := by kernel_rfl
theorem us124 : isStruct Try.prog 124 = true := by kernel_rfl
theorem fl124 : flatT Try.prog 5 124 = some [.i, .i] := by kernel_rfl
theorem eg124 : Try.prog.eqGuardType Try.prog.depth 124 = false := by kernel_rfl
theorem pl124 : placesOf Try.prog 124 = some [(0, 1), (1, 1)] := by kernel_rfl
theorem fo124_0 : fieldOf Try.prog 124 0 = some (0, 1) := by kernel_rfl
theorem fo124_1 : fieldOf Try.prog 124 1 = some (1, 1) := by kernel_rfl
theorem ti127 : tiOf Try.prog 127 = some ⟨3, 40, [.sl 1 true [], .base (.int .i64 0), .base (.bool false)], true⟩ := by kernel_rfl
theorem pl127 : placesOf Try.prog 127 = some [(0, 1), (1, 1), (2, 1)] := by kernel_rfl
theorem fo127_0 : fieldOf Try.prog 127 0 = some (0, 1) := by kernel_rfl
theorem fo127_1 : fieldOf Try.prog 127 1 = some (1, 1) := by kernel_rfl
theorem fo127_2 : fieldOf Try.prog 127 2 = some (2, 1) := by kernel_rfl
end Go.Vai
