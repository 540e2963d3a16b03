/- What all contracts of this place lean on: the types, the functions' bodies. -/
import Derived.Test.YtkloldobbepgfaaA4
import Derived.KernelRfl
import Derived.Test.YtkloldobbepgfaaProg
namespace Go.AE.F
open Go.AE Go.Proofs
set_option maxRecDepth 100000
def tys : List (Nat × S) := [(2, (.int .i64)), (3, (.int .i64)), (4, .bool), (5, (.int .u8)), (6, (.int .u8)), (7, (.pair (.int .i64) (.pair (.int .i64) (.pair .bool (.pair (.int .u8) .unit))))), (8, (.pair (.int .i64) (.pair (.int .i64) (.pair .bool (.pair (.int .u8) .unit))))), (9, .str), (10, .str), (11, .str), (12, (.int .u64)), (13, (.pair .str (.pair (.int .u64) .unit))), (14, (.pair .str (.pair (.int .u64) .unit))), (21, (.int .i32)), (22, (.sl 23 (.sl 2 (.int .i64)))), (23, (.sl 2 (.int .i64))), (32, (.sl 111 (.pair (.int .i64) (.pair (.int .i64) .unit)))), (35, (.sl 107 (.pair (.int .i64) (.pair (.int .i64) .unit)))), (42, (.sl 5 (.int .u8))), (47, (.pair (.sl 23 (.sl 2 (.int .i64))) (.pair (.int .i64) (.pair (.sl 2 (.int .i64)) .unit)))), (48, (.pair (.sl 23 (.sl 2 (.int .i64))) (.pair (.int .i64) (.pair (.sl 2 (.int .i64)) .unit)))), (57, (.pair (.pair (.sl 23 (.sl 2 (.int .i64))) (.pair (.int .i64) (.pair (.sl 2 (.int .i64)) .unit))) (.pair (.sl 2 (.int .i64)) (.pair (.int .i64) .unit)))), (58, (.pair (.pair (.sl 23 (.sl 2 (.int .i64))) (.pair (.int .i64) (.pair (.sl 2 (.int .i64)) .unit))) (.pair (.sl 2 (.int .i64)) (.pair (.int .i64) .unit)))), (62, (.pair (.sl 2 (.int .i64)) (.pair (.int .i64) (.pair (.int .i64) .unit)))), (63, (.pair (.sl 2 (.int .i64)) (.pair (.int .i64) (.pair (.int .i64) .unit)))), (67, (.pair (.int .i64) (.pair (.int .i64) .unit))), (68, (.pair (.int .i64) (.pair (.int .i64) .unit))), (70, (.pair (.sl 23 (.sl 2 (.int .i64))) (.pair (.int .i64) .unit))), (71, (.pair (.sl 23 (.sl 2 (.int .i64))) (.pair (.int .i64) .unit))), (73, (.pair (.sl 23 (.sl 2 (.int .i64))) (.pair (.int .i64) .unit))), (86, (.pair (.pair (.sl 2 (.int .i64)) (.pair (.int .i64) (.pair (.int .i64) .unit))) (.pair (.int .i64) (.pair (.int .i64) (.pair (.int .i64) .unit))))), (87, (.pair (.pair (.sl 2 (.int .i64)) (.pair (.int .i64) (.pair (.int .i64) .unit))) (.pair (.int .i64) (.pair (.int .i64) (.pair (.int .i64) .unit))))), (92, (.sl 63 (.pair (.sl 2 (.int .i64)) (.pair (.int .i64) (.pair (.int .i64) .unit))))), (93, (.pair (.sl 63 (.pair (.sl 2 (.int .i64)) (.pair (.int .i64) (.pair (.int .i64) .unit)))) (.pair (.sl 63 (.pair (.sl 2 (.int .i64)) (.pair (.int .i64) (.pair (.int .i64) .unit)))) .unit))), (94, (.pair (.sl 63 (.pair (.sl 2 (.int .i64)) (.pair (.int .i64) (.pair (.int .i64) .unit)))) (.pair (.sl 63 (.pair (.sl 2 (.int .i64)) (.pair (.int .i64) (.pair (.int .i64) .unit)))) .unit))), (95, (.pair (.pair (.sl 63 (.pair (.sl 2 (.int .i64)) (.pair (.int .i64) (.pair (.int .i64) .unit)))) (.pair (.sl 63 (.pair (.sl 2 (.int .i64)) (.pair (.int .i64) (.pair (.int .i64) .unit)))) .unit)) (.pair (.pair (.sl 2 (.int .i64)) (.pair (.int .i64) (.pair (.int .i64) .unit))) (.pair (.int .i64) .unit)))), (96, (.pair (.pair (.sl 63 (.pair (.sl 2 (.int .i64)) (.pair (.int .i64) (.pair (.int .i64) .unit)))) (.pair (.sl 63 (.pair (.sl 2 (.int .i64)) (.pair (.int .i64) (.pair (.int .i64) .unit)))) .unit)) (.pair (.pair (.sl 2 (.int .i64)) (.pair (.int .i64) (.pair (.int .i64) .unit))) (.pair (.int .i64) .unit)))), (99, (.sl 9 .str)), (106, (.pair (.int .i64) (.pair (.int .i64) .unit))), (107, (.pair (.int .i64) (.pair (.int .i64) .unit))), (111, (.pair (.int .i64) (.pair (.int .i64) .unit))), (134, (.sl 68 (.pair (.int .i64) (.pair (.int .i64) .unit)))), (137, (.sl 193 (.pair (.pair (.sl 2 (.int .i64)) (.pair (.int .i64) .unit)) (.pair (.int .i64) (.pair (.int .i64) .unit))))), (138, (.pair (.int .i64) (.pair (.int .i64) (.pair (.int .i64) (.pair (.sl 193 (.pair (.pair (.sl 2 (.int .i64)) (.pair (.int .i64) .unit)) (.pair (.int .i64) (.pair (.int .i64) .unit)))) (.pair .bool (.pair (.sl 68 (.pair (.int .i64) (.pair (.int .i64) .unit))) .unit))))))), (139, (.pair (.int .i64) (.pair (.int .i64) (.pair (.int .i64) (.pair (.sl 193 (.pair (.pair (.sl 2 (.int .i64)) (.pair (.int .i64) .unit)) (.pair (.int .i64) (.pair (.int .i64) .unit)))) (.pair .bool (.pair (.sl 68 (.pair (.int .i64) (.pair (.int .i64) .unit))) .unit))))))), (141, (.pair (.pair (.sl 2 (.int .i64)) (.pair (.int .i64) (.pair (.int .i64) .unit))) (.pair (.sl 2 (.int .i64)) (.pair (.int .i64) .unit)))), (142, (.pair (.pair (.sl 2 (.int .i64)) (.pair (.int .i64) (.pair (.int .i64) .unit))) (.pair (.sl 2 (.int .i64)) (.pair (.int .i64) .unit)))), (147, (.int .u64)), (148, (.pair (.sl 5 (.int .u8)) (.pair (.int .i64) (.pair (.int .u64) (.pair (.int .i64) .unit))))), (149, (.pair (.sl 5 (.int .u8)) (.pair (.int .i64) (.pair (.int .u64) (.pair (.int .i64) .unit))))), (168, (.sl 194 (.sl 191 (.pair (.sl 2 (.int .i64)) (.pair (.int .i64) .unit))))), (169, (.pair (.int .i64) (.pair (.sl 194 (.sl 191 (.pair (.sl 2 (.int .i64)) (.pair (.int .i64) .unit)))) (.pair (.int .i64) .unit)))), (170, (.pair (.int .i64) (.pair (.sl 194 (.sl 191 (.pair (.sl 2 (.int .i64)) (.pair (.int .i64) .unit)))) (.pair (.int .i64) .unit)))), (176, (.int .u64)), (190, (.pair (.sl 2 (.int .i64)) (.pair (.int .i64) .unit))), (191, (.pair (.sl 2 (.int .i64)) (.pair (.int .i64) .unit))), (192, (.pair (.pair (.sl 2 (.int .i64)) (.pair (.int .i64) .unit)) (.pair (.int .i64) (.pair (.int .i64) .unit)))), (193, (.pair (.pair (.sl 2 (.int .i64)) (.pair (.int .i64) .unit)) (.pair (.int .i64) (.pair (.int .i64) .unit)))), (194, (.sl 191 (.pair (.sl 2 (.int .i64)) (.pair (.int .i64) .unit)))), (198, (.int .i64)), (207, (.int .u32)), (217, (.int .u64)), (236, (.int .u8)), (237, (.int .u8)), (240, (.int .i32)), (241, (.int .i32))]
theorem tys_ok : tableOk Try.prog tys = true := by kernel_rfl
theorem mixed : Try.prog.follows .mixedOrders = true := by kernel_rfl
theorem hb85 : hasBody Try.prog 85 := ⟨_, Try.func85, by kernel_rfl, by kernel_rfl⟩
theorem hb15 : hasBody Try.prog 15 := ⟨_, Try.func15, by kernel_rfl, by kernel_rfl⟩
theorem hb18 : hasBody Try.prog 18 := ⟨_, Try.func18, by kernel_rfl, by kernel_rfl⟩
theorem hb17 : hasBody Try.prog 17 := ⟨_, Try.func17, by kernel_rfl, by kernel_rfl⟩
theorem hb109 : hasBody Try.prog 109 := ⟨_, Try.func109, by kernel_rfl, by kernel_rfl⟩
theorem hb45 : hasBody Try.prog 45 := ⟨_, Try.func45, by kernel_rfl, by kernel_rfl⟩
theorem hb103 : hasBody Try.prog 103 := ⟨_, Try.func103, by kernel_rfl, by kernel_rfl⟩
theorem hb41 : hasBody Try.prog 41 := ⟨_, Try.func41, by kernel_rfl, by kernel_rfl⟩
theorem hb156 : hasBody Try.prog 156 := ⟨_, Try.func156, by kernel_rfl, by kernel_rfl⟩
theorem hb87 : hasBody Try.prog 87 := ⟨_, Try.func87, by kernel_rfl, by kernel_rfl⟩
theorem hb40 : hasBody Try.prog 40 := ⟨_, Try.func40, by kernel_rfl, by kernel_rfl⟩
theorem hb86 : hasBody Try.prog 86 := ⟨_, Try.func86, by kernel_rfl, by kernel_rfl⟩
theorem hb16 : hasBody Try.prog 16 := ⟨_, Try.func16, by kernel_rfl, by kernel_rfl⟩
theorem hb88 : hasBody Try.prog 88 := ⟨_, Try.func88, by kernel_rfl, by kernel_rfl⟩
theorem hb114 : hasBody Try.prog 114 := ⟨_, Try.func114, by kernel_rfl, by kernel_rfl⟩
theorem hb159 : hasBody Try.prog 159 := ⟨_, Try.func159, by kernel_rfl, by kernel_rfl⟩
theorem hb158 : hasBody Try.prog 158 := ⟨_, Try.func158, by kernel_rfl, by kernel_rfl⟩
theorem hb200 : hasBody Try.prog 200 := ⟨_, Try.func200, by kernel_rfl, by kernel_rfl⟩
theorem hb157 : hasBody Try.prog 157 := ⟨_, Try.func157, by kernel_rfl, by kernel_rfl⟩
theorem hb89 : hasBody Try.prog 89 := ⟨_, Try.func89, by kernel_rfl, by kernel_rfl⟩
theorem hb139 : hasBody Try.prog 139 := ⟨_, Try.func139, by kernel_rfl, by kernel_rfl⟩
theorem hb162 : hasBody Try.prog 162 := ⟨_, Try.func162, by kernel_rfl, by kernel_rfl⟩
theorem hb161 : hasBody Try.prog 161 := ⟨_, Try.func161, by kernel_rfl, by kernel_rfl⟩
theorem hb160 : hasBody Try.prog 160 := ⟨_, Try.func160, by kernel_rfl, by kernel_rfl⟩
theorem hb193 : hasBody Try.prog 193 := ⟨_, Try.func193, by kernel_rfl, by kernel_rfl⟩
theorem hb148 : hasBody Try.prog 148 := ⟨_, Try.func148, by kernel_rfl, by kernel_rfl⟩
theorem hb90 : hasBody Try.prog 90 := ⟨_, Try.func90, by kernel_rfl, by kernel_rfl⟩
theorem hb91 : hasBody Try.prog 91 := ⟨_, Try.func91, by kernel_rfl, by kernel_rfl⟩
theorem hb111 : hasBody Try.prog 111 := ⟨_, Try.func111, by kernel_rfl, by kernel_rfl⟩
theorem hb116 : hasBody Try.prog 116 := ⟨_, Try.func116, by kernel_rfl, by kernel_rfl⟩
theorem hb102 : hasBody Try.prog 102 := ⟨_, Try.func102, by kernel_rfl, by kernel_rfl⟩
theorem hb163 : hasBody Try.prog 163 := ⟨_, Try.func163, by kernel_rfl, by kernel_rfl⟩
theorem hb92 : hasBody Try.prog 92 := ⟨_, Try.func92, by kernel_rfl, by kernel_rfl⟩
theorem hb19 : hasBody Try.prog 19 := ⟨_, Try.func19, by kernel_rfl, by kernel_rfl⟩
theorem hb20 : hasBody Try.prog 20 := ⟨_, Try.func20, by kernel_rfl, by kernel_rfl⟩
theorem hb21 : hasBody Try.prog 21 := ⟨_, Try.func21, by kernel_rfl, by kernel_rfl⟩
theorem hb23 : hasBody Try.prog 23 := ⟨_, Try.func23, by kernel_rfl, by kernel_rfl⟩
theorem hb22 : hasBody Try.prog 22 := ⟨_, Try.func22, by kernel_rfl, by kernel_rfl⟩
theorem hb24 : hasBody Try.prog 24 := ⟨_, Try.func24, by kernel_rfl, by kernel_rfl⟩
theorem hb3 : hasBody Try.prog 3 := ⟨_, Try.func3, by kernel_rfl, by kernel_rfl⟩
end Go.AE.F
