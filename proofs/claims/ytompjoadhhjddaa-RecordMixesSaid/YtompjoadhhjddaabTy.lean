import Derived.Test.YtompjoadhhjddaaProg
import Derived.Test.YtompjoadhhjddaaVaiD
namespace Go.Vai
open Go.Proofs Go.Vai
set_option linter.unusedSimpArgs false
set_option linter.unusedVariables false
theorem u3 : Try.prog.underlying 3 = some (.int .i64) := by kernel_rfl
theorem ti3 : tiOf Try.prog 3 = some ⟨1, 8, [.base (.int .i64 0)], false⟩ := by kernel_rfl
theorem ti4 : tiOf Try.prog 4 = some ⟨1, 1, [.base (.bool false)], false⟩ := by kernel_rfl
theorem u5 : Try.prog.underlying 5 = some (.int .u8) := by kernel_rfl
theorem ti5 : tiOf Try.prog 5 = some ⟨1, 1, [.base (.int .u8 0)], false⟩ := by kernel_rfl
theorem u9 : Try.prog.underlying 9 = some .string := by kernel_rfl
theorem u25 : Try.prog.underlying 25 = some (.slice 5) := by kernel_rfl
theorem ti25 : tiOf Try.prog 25 = some ⟨1, 24, [.sl 1 true []], false⟩ := by kernel_rfl
theorem el25 : elOf Try.prog 25 = some 5 := by kernel_rfl
theorem sz25 : szOf Try.prog 25 = 1 := by kernel_rfl
theorem u33 : Try.prog.underlying 33 = some (.pointer 101) := by kernel_rfl
theorem ti47 : tiOf Try.prog 47 = some ⟨7, 72, [.base (.int .i64 0), .base (.int .i64 0), .base (.int .i64 0), .base (.int .i64 0), .base (.int .i64 0), .base (.int .i64 0), .sl 1 true []], true⟩ := by kernel_rfl
theorem pl47 : placesOf Try.prog 47 = some [(0, 1), (1, 1), (2, 1), (3, 1), (4, 1), (5, 1), (6, 1)] := by kernel_rfl
theorem fo47_0 : fieldOf Try.prog 47 0 = some (0, 1) := by kernel_rfl
theorem fo47_1 : fieldOf Try.prog 47 1 = some (1, 1) := by kernel_rfl
theorem fo47_2 : fieldOf Try.prog 47 2 = some (2, 1) := by kernel_rfl
theorem fo47_3 : fieldOf Try.prog 47 3 = some (3, 1) := by kernel_rfl
theorem fo47_4 : fieldOf Try.prog 47 4 = some (4, 1) := by kernel_rfl
theorem fo47_5 : fieldOf Try.prog 47 5 = some (5, 1) := by kernel_rfl
theorem fo47_6 : fieldOf Try.prog 47 6 = some (6, 1) := by kernel_rfl
theorem u48 : Try.prog.underlying 48 = some (.slice 47) := by kernel_rfl
theorem el48 : elOf Try.prog 48 = some 47 := by kernel_rfl
theorem sz48 : szOf Try.prog 48 = 7 := by kernel_rfl
theorem ti63 : tiOf Try.prog 63 = some ⟨3, 56, [.sl 1 true [], .sl 1 true [], .base (.int .u8 0)], true⟩ := by kernel_rfl
theorem fo63_0 : fieldOf Try.prog 63 0 = some (0, 1) := by kernel_rfl
theorem fo63_1 : fieldOf Try.prog 63 1 = some (1, 1) := by kernel_rfl
theorem fo63_2 : fieldOf Try.prog 63 2 = some (2, 1) := by kernel_rfl
theorem u87 : Try.prog.underlying 87 = some (.int .u32) := by kernel_rfl
theorem u90 : Try.prog.underlying 90 = some (.int .u64) := by kernel_rfl
theorem u97 : Try.prog.underlying 97 = some (.int .u64) := by kernel_rfl
theorem ti101 : tiOf Try.prog 101 = some ⟨2, 32, [.sl 1 true [], .base (.bool false)], true⟩ := by kernel_rfl
theorem pl101 : placesOf Try.prog 101 = some [(0, 1), (1, 1)] := by kernel_rfl
theorem fo101_0 : fieldOf Try.prog 101 0 = some (0, 1) := by kernel_rfl
theorem fo101_1 : fieldOf Try.prog 101 1 = some (1, 1) := by kernel_rfl
theorem ti104 : tiOf Try.prog 104 = some ⟨3, 40, [.sl 1 true [], .base (.int .i64 0), .base (.bool false)], true⟩ := by kernel_rfl
theorem fo104_0 : fieldOf Try.prog 104 0 = some (0, 1) := by kernel_rfl
theorem fo104_1 : fieldOf Try.prog 104 1 = some (1, 1) := by kernel_rfl
theorem fo104_2 : fieldOf Try.prog 104 2 = some (2, 1) := by kernel_rfl
theorem u124 : Try.prog.underlying 124 = some (.slice 3) := by kernel_rfl
theorem el124 : elOf Try.prog 124 = some 3 := by kernel_rfl
theorem u132 : Try.prog.underlying 132 = some (.slice 25) := by kernel_rfl
theorem el132 : elOf Try.prog 132 = some 25 := by kernel_rfl

end Go.Vai
