import Derived.Test.YtencjgkeflibdaaGreatProg
import Derived.Test.YtencjgkeflibdaaGreatVaiE
namespace Go.Vai
open Go.Proofs Go.Vai
set_option linter.unusedSimpArgs false
set_option linter.unusedVariables false
theorem un2 : Tryz.prog.underlying 2 = some (.int .i64) := by kernel_rfl
theorem ti2 : tiOf Tryz.prog 2 = some ⟨1, 8, [.base (.int .i64 0)], false⟩ := by kernel_rfl
theorem un3 : Tryz.prog.underlying 3 = some (.int .i64) := by kernel_rfl
theorem ti3 : tiOf Tryz.prog 3 = some ⟨1, 8, [.base (.int .i64 0)], false⟩ := by kernel_rfl
theorem un4 : Tryz.prog.underlying 4 = some .bool := by kernel_rfl
theorem ti4 : tiOf Tryz.prog 4 = some ⟨1, 1, [.base (.bool false)], false⟩ := by kernel_rfl
theorem un5 : Tryz.prog.underlying 5 = some (.int .u8) := by kernel_rfl
theorem ti5 : tiOf Tryz.prog 5 = some ⟨1, 1, [.base (.int .u8 0)], false⟩ := by kernel_rfl
theorem un6 : Tryz.prog.underlying 6 = some (.int .u8) := by kernel_rfl
theorem ti6 : tiOf Tryz.prog 6 = some ⟨1, 1, [.base (.int .u8 0)], false⟩ := by kernel_rfl
theorem un9 : Tryz.prog.underlying 9 = some .string := by kernel_rfl
theorem ti9 : tiOf Tryz.prog 9 = some ⟨1, 16, [.base (.string default)], false⟩ := by kernel_rfl
theorem un22 : Tryz.prog.underlying 22 = some (.slice 5) := by kernel_rfl
theorem ti22 : tiOf Tryz.prog 22 = some ⟨1, 24, [.sl 1 true []], false⟩ := by kernel_rfl
theorem el22 : elOf Tryz.prog 22 = some 5 := by kernel_rfl
theorem sz22 : szOf Tryz.prog 22 = 1 := by kernel_rfl
theorem un23 : Tryz.prog.underlying 23 = some (.pointer 38) := by kernel_rfl
theorem ti23 : tiOf Tryz.prog 23 = some ⟨1, 8, [.base (.pointer none)], false⟩ := by kernel_rfl
theorem un24 : Tryz.prog.underlying 24 = some (.int .i64) := by kernel_rfl
theorem ti24 : tiOf Tryz.prog 24 = some ⟨1, 8, [.base (.int .i64 0)], false⟩ := by kernel_rfl
theorem un28 : Tryz.prog.underlying 28 = some (.pointer 42) := by kernel_rfl
theorem ti28 : tiOf Tryz.prog 28 = some ⟨1, 8, [.base (.pointer none)], false⟩ := by kernel_rfl
theorem un29 : Tryz.prog.underlying 29 = some (.slice 22) := by kernel_rfl
theorem ti29 : tiOf Tryz.prog 29 = some ⟨1, 24, [.sl 1 true []], false⟩ := by kernel_rfl
theorem el29 : elOf Tryz.prog 29 = some 22 := by kernel_rfl
theorem sz29 : szOf Tryz.prog 29 = 1 := by kernel_rfl
theorem ti36 : tiOf Tryz.prog 36 = some ⟨1, 8, [.base (.map none)], false⟩ := by kernel_rfl
theorem ti38 : tiOf Tryz.prog 38 = some ⟨5, 40, [.base (.int .i64 0), .base (.map none), .base (.map none), .base (.int .i64 0), .base (.bool false)], true⟩ := by kernel_rfl
theorem us38 : isStruct Tryz.prog 38 = true := by kernel_rfl
theorem eg38 : Tryz.prog.eqGuardType Tryz.prog.depth 38 = false := by kernel_rfl
theorem pl38 : placesOf Tryz.prog 38 = some [(0, 1), (1, 1), (2, 1), (3, 1), (4, 1)] := by kernel_rfl
theorem fo38_0 : fieldOf Tryz.prog 38 0 = some (0, 1) := by kernel_rfl
theorem fo38_1 : fieldOf Tryz.prog 38 1 = some (1, 1) := by kernel_rfl
theorem fo38_2 : fieldOf Tryz.prog 38 2 = some (2, 1) := by kernel_rfl
theorem fo38_3 : fieldOf Tryz.prog 38 3 = some (3, 1) := by kernel_rfl
theorem fo38_4 : fieldOf Tryz.prog 38 4 = some (4, 1) := by kernel_rfl
theorem ti40 : tiOf Tryz.prog 40 = some ⟨3, 24, [.base (.int .i64 0), .base (.int .i64 0), .base (.int .i64 0)], true⟩ := by kernel_rfl
theorem us40 : isStruct Tryz.prog 40 = true := by kernel_rfl
theorem fl40 : flatT Tryz.prog 5 40 = some [.i, .i, .i] := by kernel_rfl
theorem eg40 : Tryz.prog.eqGuardType Tryz.prog.depth 40 = false := by kernel_rfl
theorem pl40 : placesOf Tryz.prog 40 = some [(0, 1), (1, 1), (2, 1)] := by kernel_rfl
theorem fo40_0 : fieldOf Tryz.prog 40 0 = some (0, 1) := by kernel_rfl
theorem fo40_1 : fieldOf Tryz.prog 40 1 = some (1, 1) := by kernel_rfl
theorem fo40_2 : fieldOf Tryz.prog 40 2 = some (2, 1) := by kernel_rfl
theorem ti42 : tiOf Tryz.prog 42 = some ⟨8, 64, [.base (.pointer none), .base (.int .i64 0), .base (.int .i64 0), .base (.int .i64 0), .base (.int .i64 0), .base (.int .i64 0), .base (.int .i64 0), .base (.bool false)], true⟩ := by kernel_rfl
theorem us42 : isStruct Tryz.prog 42 = true := by kernel_rfl
theorem eg42 : Tryz.prog.eqGuardType Tryz.prog.depth 42 = false := by kernel_rfl
theorem pl42 : placesOf Tryz.prog 42 = some [(0, 1), (1, 3), (4, 1), (5, 1), (6, 1), (7, 1)] := by kernel_rfl
theorem fo42_0 : fieldOf Tryz.prog 42 0 = some (0, 1) := by kernel_rfl
theorem fo42_1 : fieldOf Tryz.prog 42 1 = some (1, 3) := by kernel_rfl
theorem fo42_2 : fieldOf Tryz.prog 42 2 = some (4, 1) := by kernel_rfl
theorem fo42_3 : fieldOf Tryz.prog 42 3 = some (5, 1) := by kernel_rfl
theorem fo42_4 : fieldOf Tryz.prog 42 4 = some (6, 1) := by kernel_rfl
theorem fo42_5 : fieldOf Tryz.prog 42 5 = some (7, 1) := by kernel_rfl
theorem un45 : Tryz.prog.underlying 45 = some (.slice 50) := by kernel_rfl
theorem ti45 : tiOf Tryz.prog 45 = some ⟨1, 24, [.sl 4 true []], false⟩ := by kernel_rfl
theorem el45 : elOf Tryz.prog 45 = some 50 := by kernel_rfl
theorem sz45 : szOf Tryz.prog 45 = 4 := by kernel_rfl
theorem un48 : Tryz.prog.underlying 48 = some (.slice 104) := by kernel_rfl
theorem ti48 : tiOf Tryz.prog 48 = some ⟨1, 24, [.sl 2 true []], false⟩ := by kernel_rfl
theorem el48 : elOf Tryz.prog 48 = some 104 := by kernel_rfl
theorem sz48 : szOf Tryz.prog 48 = 2 := by kernel_rfl
theorem ti50 : tiOf Tryz.prog 50 = some ⟨4, 48, [.base (.int .i64 0), .base (.int .i64 0), .base (.int .u8 0), .sl 2 true []], true⟩ := by kernel_rfl
theorem us50 : isStruct Tryz.prog 50 = true := by kernel_rfl
theorem eg50 : Tryz.prog.eqGuardType Tryz.prog.depth 50 = false := by kernel_rfl
theorem pl50 : placesOf Tryz.prog 50 = some [(0, 1), (1, 1), (2, 1), (3, 1)] := by kernel_rfl
theorem fo50_0 : fieldOf Tryz.prog 50 0 = some (0, 1) := by kernel_rfl
theorem fo50_1 : fieldOf Tryz.prog 50 1 = some (1, 1) := by kernel_rfl
theorem fo50_2 : fieldOf Tryz.prog 50 2 = some (2, 1) := by kernel_rfl
theorem fo50_3 : fieldOf Tryz.prog 50 3 = some (3, 1) := by kernel_rfl
theorem un56 : Tryz.prog.underlying 56 = some (.slice 3) := by kernel_rfl
theorem ti56 : tiOf Tryz.prog 56 = some ⟨1, 24, [.sl 1 true []], false⟩ := by kernel_rfl
theorem el56 : elOf Tryz.prog 56 = some 3 := by kernel_rfl
theorem sz56 : szOf Tryz.prog 56 = 1 := by kernel_rfl
theorem ti77 : tiOf Tryz.prog 77 = some ⟨2, 32, [.base (.int .i64 0), .sl 1 true []], true⟩ := by kernel_rfl
theorem us77 : isStruct Tryz.prog 77 = true := by kernel_rfl
theorem eg77 : Tryz.prog.eqGuardType Tryz.prog.depth 77 = false := by kernel_rfl
theorem pl77 : placesOf Tryz.prog 77 = some [(0, 1), (1, 1)] := by kernel_rfl
theorem fo77_0 : fieldOf Tryz.prog 77 0 = some (0, 1) := by kernel_rfl
theorem fo77_1 : fieldOf Tryz.prog 77 1 = some (1, 1) := by kernel_rfl
theorem un84 : Tryz.prog.underlying 84 = some (.slice 89) := by kernel_rfl
theorem ti84 : tiOf Tryz.prog 84 = some ⟨1, 24, [.sl 7 true []], false⟩ := by kernel_rfl
theorem el84 : elOf Tryz.prog 84 = some 89 := by kernel_rfl
theorem sz84 : szOf Tryz.prog 84 = 7 := by kernel_rfl
theorem ti89 : tiOf Tryz.prog 89 = some ⟨7, 72, [.base (.int .i64 0), .base (.int .i64 0), .base (.int .i64 0), .base (.int .i64 0), .base (.int .i64 0), .base (.int .i64 0), .sl 1 true []], true⟩ := by kernel_rfl
theorem us89 : isStruct Tryz.prog 89 = true := by kernel_rfl
theorem eg89 : Tryz.prog.eqGuardType Tryz.prog.depth 89 = false := by kernel_rfl
theorem pl89 : placesOf Tryz.prog 89 = some [(0, 1), (1, 1), (2, 1), (3, 1), (4, 1), (5, 1), (6, 1)] := by kernel_rfl
theorem fo89_0 : fieldOf Tryz.prog 89 0 = some (0, 1) := by kernel_rfl
theorem fo89_1 : fieldOf Tryz.prog 89 1 = some (1, 1) := by kernel_rfl
theorem fo89_2 : fieldOf Tryz.prog 89 2 = some (2, 1) := by kernel_rfl
theorem fo89_3 : fieldOf Tryz.prog 89 3 = some (3, 1) := by kernel_rfl
theorem fo89_4 : fieldOf Tryz.prog 89 4 = some (4, 1) := by kernel_rfl
theorem fo89_5 : fieldOf Tryz.prog 89 5 = some (5, 1) := by kernel_rfl
theorem fo89_6 : fieldOf Tryz.prog 89 6 = some (6, 1) := by kernel_rfl
theorem ti101 : tiOf Tryz.prog 101 = some ⟨5, 72, [.base (.int .i64 0), .base (.int .i64 0), .sl 1 true [], .base (.bool false), .sl 2 true []], true⟩ := by kernel_rfl
theorem us101 : isStruct Tryz.prog 101 = true := by kernel_rfl
theorem eg101 : Tryz.prog.eqGuardType Tryz.prog.depth 101 = false := by kernel_rfl
theorem pl101 : placesOf Tryz.prog 101 = some [(0, 1), (1, 1), (2, 1), (3, 1), (4, 1)] := by kernel_rfl
theorem fo101_2 : fieldOf Tryz.prog 101 2 = some (2, 1) := by kernel_rfl
theorem fo101_4 : fieldOf Tryz.prog 101 4 = some (4, 1) := by kernel_rfl
theorem un102 : Tryz.prog.underlying 102 = some (.slice 101) := by kernel_rfl
theorem ti102 : tiOf Tryz.prog 102 = some ⟨1, 24, [.sl 5 true []], false⟩ := by kernel_rfl
theorem el102 : elOf Tryz.prog 102 = some 101 := by kernel_rfl
theorem sz102 : szOf Tryz.prog 102 = 5 := by kernel_rfl
theorem ti104 : tiOf Tryz.prog 104 = some ⟨2, 32, [.base (.int .i64 0), .sl 1 true []], true⟩ := by kernel_rfl
theorem us104 : isStruct Tryz.prog 104 = true := by kernel_rfl
theorem eg104 : Tryz.prog.eqGuardType Tryz.prog.depth 104 = false := by kernel_rfl
theorem pl104 : placesOf Tryz.prog 104 = some [(0, 1), (1, 1)] := by kernel_rfl
theorem fo104_0 : fieldOf Tryz.prog 104 0 = some (0, 1) := by kernel_rfl
theorem fo104_1 : fieldOf Tryz.prog 104 1 = some (1, 1) := by kernel_rfl
theorem un130 : Tryz.prog.underlying 130 = some (.int .u64) := by kernel_rfl
theorem ti130 : tiOf Tryz.prog 130 = some ⟨1, 8, [.base (.int .u64 0)], false⟩ := by kernel_rfl
theorem un147 : Tryz.prog.underlying 147 = some (.pointer 174) := by kernel_rfl
theorem ti147 : tiOf Tryz.prog 147 = some ⟨1, 8, [.base (.pointer none)], false⟩ := by kernel_rfl
theorem un155 : Tryz.prog.underlying 155 = some (.slice 29) := by kernel_rfl
theorem ti155 : tiOf Tryz.prog 155 = some ⟨1, 24, [.sl 1 true []], false⟩ := by kernel_rfl
theorem el155 : elOf Tryz.prog 155 = some 29 := by kernel_rfl
theorem sz155 : szOf Tryz.prog 155 = 1 := by kernel_rfl
theorem un161 : Tryz.prog.underlying 161 = some (.int .u32) := by kernel_rfl
theorem ti161 : tiOf Tryz.prog 161 = some ⟨1, 4, [.base (.int .u32 0)], false⟩ := by kernel_rfl
theorem un166 : Tryz.prog.underlying 166 = some (.int .u64) := by kernel_rfl
theorem ti166 : tiOf Tryz.prog 166 = some ⟨1, 8, [.base (.int .u64 0)], false⟩ := by kernel_rfl
theorem ti174 : tiOf Tryz.prog 174 = some ⟨2, 32, [.sl 1 true [], .base (.bool false)], true⟩ := by kernel_rfl
theorem us174 : isStruct Tryz.prog 174 = true := by kernel_rfl
theorem eg174 : Tryz.prog.eqGuardType Tryz.prog.depth 174 = false := by kernel_rfl
theorem pl174 : placesOf Tryz.prog 174 = some [(0, 1), (1, 1)] := by kernel_rfl
theorem fo174_0 : fieldOf Tryz.prog 174 0 = some (0, 1) := by kernel_rfl
theorem fo174_1 : fieldOf Tryz.prog 174 1 = some (1, 1) := by kernel_rfl
attribute [go_sem] un2 ti2 un3 ti3 un4 ti4 un5 ti5 un6 ti6
attribute [go_sem] un9 ti9
attribute [go_sem] un22 ti22 el22 sz22 un23 ti23
attribute [go_sem] un24 ti24 un28 ti28 un29 ti29 el29 sz29 ti36
attribute [go_sem] ti38 us38 eg38 pl38 fo38_0 fo38_1
attribute [go_sem] fo38_2 fo38_3 fo38_4 ti40
attribute [go_sem] us40 fl40 eg40 pl40 fo40_0 fo40_1 fo40_2
attribute [go_sem] ti42 us42 eg42 pl42 fo42_0 fo42_1 fo42_2
attribute [go_sem] fo42_3 fo42_4 fo42_5 un45 ti45 el45 sz45 un48 ti48 el48 sz48
attribute [go_sem] ti50 us50 eg50 pl50 fo50_0
attribute [go_sem] fo50_1 fo50_2 fo50_3 un56 ti56 el56 sz56
attribute [go_sem] ti77 us77 eg77 pl77 fo77_0 fo77_1 un84 ti84 el84
attribute [go_sem] sz84
attribute [go_sem] ti89 us89 eg89 pl89 fo89_0 fo89_1 fo89_2 fo89_3 fo89_4 fo89_5 fo89_6
attribute [go_sem] ti101 us101 eg101 pl101
attribute [go_sem] fo101_2 fo101_4 un102 ti102 el102 sz102
attribute [go_sem] ti104 us104 eg104 pl104 fo104_0 fo104_1 un130 ti130
attribute [go_sem] un147 ti147 un155 ti155 el155 sz155 un161 ti161 un166 ti166
attribute [go_sem] ti174 us174 eg174 pl174 fo174_0 fo174_1
end Go.Vai
