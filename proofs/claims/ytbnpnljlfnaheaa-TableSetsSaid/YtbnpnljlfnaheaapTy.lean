import Derived.Test.YtbnpnljlfnaheaaProg
import Derived.Test.YtbnpnljlfnaheaaVaiE
namespace Go.Vai
open Go.Proofs Go.Vai
set_option linter.unusedSimpArgs false
set_option linter.unusedVariables false
theorem un2 : Try.prog.underlying 2 = some (.int .i64) := by kernel_rfl
theorem ti2 : tiOf Try.prog 2 = some ⟨1, 8, [.base (.int .i64 0)], false⟩ := by kernel_rfl
theorem un3 : Try.prog.underlying 3 = some (.int .i64) := by kernel_rfl
theorem ti3 : tiOf Try.prog 3 = some ⟨1, 8, [.base (.int .i64 0)], false⟩ := by kernel_rfl
theorem un4 : Try.prog.underlying 4 = some .bool := by kernel_rfl
theorem ti4 : tiOf Try.prog 4 = some ⟨1, 1, [.base (.bool false)], false⟩ := by kernel_rfl
theorem un5 : Try.prog.underlying 5 = some (.int .u8) := by kernel_rfl
theorem ti5 : tiOf Try.prog 5 = some ⟨1, 1, [.base (.int .u8 0)], false⟩ := by kernel_rfl
theorem un6 : Try.prog.underlying 6 = some (.int .u8) := by kernel_rfl
theorem ti6 : tiOf Try.prog 6 = some ⟨1, 1, [.base (.int .u8 0)], false⟩ := by kernel_rfl
theorem ti7 : tiOf Try.prog 7 = some ⟨4, 24, [.base (.int .i64 0), .base (.int .i64 0), .base (.bool false), .base (.int .u8 0)], true⟩ := by kernel_rfl
theorem us7 : isStruct Try.prog 7 = true := by kernel_rfl
theorem fl7 : flatT Try.prog 5 7 = some [.i, .i, .b, .i] := by kernel_rfl
theorem eg7 : Try.prog.eqGuardType Try.prog.depth 7 = false := by kernel_rfl
theorem pl7 : placesOf Try.prog 7 = some [(0, 1), (1, 1), (2, 1), (3, 1)] := by kernel_rfl
theorem un26 : Try.prog.underlying 26 = some (.int .i64) := by kernel_rfl
theorem ti26 : tiOf Try.prog 26 = some ⟨1, 8, [.base (.int .i64 0)], false⟩ := by kernel_rfl
theorem un32 : Try.prog.underlying 32 = some (.slice 34) := by kernel_rfl
theorem ti32 : tiOf Try.prog 32 = some ⟨1, 24, [.sl 8 true []], false⟩ := by kernel_rfl
theorem el32 : elOf Try.prog 32 = some 34 := by kernel_rfl
theorem sz32 : szOf Try.prog 32 = 8 := by kernel_rfl
theorem ti34 : tiOf Try.prog 34 = some ⟨8, 56, [.base (.int .i64 0), .base (.int .i64 0), .base (.int .i64 0), .base (.int .i64 0), .base (.bool false), .base (.bool false), .base (.int .i64 0), .base (.bool false)], true⟩ := by kernel_rfl
theorem us34 : isStruct Try.prog 34 = true := by kernel_rfl
theorem fl34 : flatT Try.prog 5 34 = some [.i, .i, .i, .i, .b, .b, .i, .b] := by kernel_rfl
theorem eg34 : Try.prog.eqGuardType Try.prog.depth 34 = false := by kernel_rfl
theorem pl34 : placesOf Try.prog 34 = some [(0, 1), (1, 1), (2, 1), (3, 1), (4, 1), (5, 1), (6, 1), (7, 1)] := by kernel_rfl
theorem fo34_0 : fieldOf Try.prog 34 0 = some (0, 1) := by kernel_rfl
theorem fo34_1 : fieldOf Try.prog 34 1 = some (1, 1) := by kernel_rfl
theorem fo34_2 : fieldOf Try.prog 34 2 = some (2, 1) := by kernel_rfl
theorem fo34_3 : fieldOf Try.prog 34 3 = some (3, 1) := by kernel_rfl
theorem fo34_4 : fieldOf Try.prog 34 4 = some (4, 1) := by kernel_rfl
theorem fo34_5 : fieldOf Try.prog 34 5 = some (5, 1) := by kernel_rfl
theorem fo34_6 : fieldOf Try.prog 34 6 = some (6, 1) := by kernel_rfl
theorem fo34_7 : fieldOf Try.prog 34 7 = some (7, 1) := by kernel_rfl
theorem un57 : Try.prog.underlying 57 = some (.slice 3) := by kernel_rfl
theorem ti57 : tiOf Try.prog 57 = some ⟨1, 24, [.sl 1 true []], false⟩ := by kernel_rfl
theorem el57 : elOf Try.prog 57 = some 3 := by kernel_rfl
theorem sz57 : szOf Try.prog 57 = 1 := by kernel_rfl
theorem un65 : Try.prog.underlying 65 = some (.slice 68) := by kernel_rfl
theorem ti65 : tiOf Try.prog 65 = some ⟨1, 24, [.sl 2 true []], false⟩ := by kernel_rfl
theorem el65 : elOf Try.prog 65 = some 68 := by kernel_rfl
theorem sz65 : szOf Try.prog 65 = 2 := by kernel_rfl
theorem ti68 : tiOf Try.prog 68 = some ⟨2, 16, [.base (.int .i64 0), .base (.int .i64 0)], true⟩ := by kernel_rfl
theorem us68 : isStruct Try.prog 68 = true := by kernel_rfl
theorem fl68 : flatT Try.prog 5 68 = some [.i, .i] := by kernel_rfl
theorem eg68 : Try.prog.eqGuardType Try.prog.depth 68 = false := by kernel_rfl
theorem pl68 : placesOf Try.prog 68 = some [(0, 1), (1, 1)] := by kernel_rfl
theorem un69 : Try.prog.underlying 69 = some (.slice 96) := by kernel_rfl
theorem ti69 : tiOf Try.prog 69 = some ⟨1, 24, [.sl 2 true []], false⟩ := by kernel_rfl
theorem el69 : elOf Try.prog 69 = some 96 := by kernel_rfl
theorem sz69 : szOf Try.prog 69 = 2 := by kernel_rfl
theorem ti96 : tiOf Try.prog 96 = some ⟨2, 16, [.base (.int .i64 0), .base (.int .i64 0)], true⟩ := by kernel_rfl
theorem us96 : isStruct Try.prog 96 = true := by kernel_rfl
theorem fl96 : flatT Try.prog 5 96 = some [.i, .i] := by kernel_rfl
theorem eg96 : Try.prog.eqGuardType Try.prog.depth 96 = false := by kernel_rfl
theorem pl96 : placesOf Try.prog 96 = some [(0, 1), (1, 1)] := by kernel_rfl
theorem un105 : Try.prog.underlying 105 = some (.int .u64) := by kernel_rfl
theorem ti105 : tiOf Try.prog 105 = some ⟨1, 8, [.base (.int .u64 0)], false⟩ := by kernel_rfl
attribute [go_sem] un2 ti2 un3 ti3 un4 ti4 un5 ti5 un6 ti6 ti7 us7
attribute [go_sem] fl7 eg7 pl7
attribute [go_sem] un26 ti26
attribute [go_sem] un32 ti32 el32 sz32
attribute [go_sem] ti34
attribute [go_sem] us34 fl34 eg34 pl34 fo34_0 fo34_1 fo34_2 fo34_3 fo34_4 fo34_5 fo34_6 fo34_7
attribute [go_sem] un57 ti57 el57 sz57
attribute [go_sem] un65 ti65 el65 sz65 ti68
attribute [go_sem] us68 fl68 eg68 pl68 un69 ti69 el69 sz69
attribute [go_sem] ti96 us96 fl96 eg96 pl96
attribute [go_sem] un105 ti105
end Go.Vai
