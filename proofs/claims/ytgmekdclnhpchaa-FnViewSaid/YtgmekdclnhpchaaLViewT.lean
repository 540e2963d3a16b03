/- What all contracts of this place lean on: the types, the functions' bodies. -/
import Derived.Test.YtgmekdclnhpchaaA5
import Derived.KernelRfl
import Derived.Test.YtgmekdclnhpchaaProg
namespace Go.AE.F
open Go.AE Go.Proofs
set_option maxRecDepth 100000
abbrev s22 : S := (.sl 5 (.int .u8))
abbrev s23 : S := (.sl 2 (.int .i64))
abbrev s24 : S := (.pair (.sl 2 (.int .i64)) (.pair (.int .i64) (.pair (.int .i64) .unit)))
abbrev s28 : S := (.sl 62 (.pair (.sl 2 (.int .i64)) (.pair (.int .i64) .unit)))
abbrev s29 : S := (.pair (.int .i64) (.pair (.int .i64) (.pair (.sl 62 (.pair (.sl 2 (.int .i64)) (.pair (.int .i64) .unit))) (.pair (.int .i64) (.pair (.int .i64) (.pair .bool (.pair (.int .i64) .unit)))))))
abbrev s31 : S := (.pair (.pair (.int .i64) (.pair (.int .i64) (.pair (.sl 62 (.pair (.sl 2 (.int .i64)) (.pair (.int .i64) .unit))) (.pair (.int .i64) (.pair (.int .i64) (.pair .bool (.pair (.int .i64) .unit))))))) (.pair (.int .i64) (.pair (.int .i64) .unit)))
abbrev s35 : S := (.pair (.int .i64) (.pair (.int .i64) .unit))
abbrev s53 : S := (.sl 36 (.pair (.int .i64) (.pair (.int .i64) .unit)))
abbrev s59 : S := (.pair (.int .i64) (.pair (.sl 28 (.sl 62 (.pair (.sl 2 (.int .i64)) (.pair (.int .i64) .unit)))) (.pair (.int .i64) .unit)))
abbrev s61 : S := (.pair (.sl 2 (.int .i64)) (.pair (.int .i64) .unit))
abbrev s67 : S := (.sl 71 (.pair (.pair (.sl 2 (.int .i64)) (.pair (.int .i64) .unit)) (.pair (.int .i64) (.pair (.int .i64) .unit))))
abbrev s68 : S := (.pair (.int .i64) (.pair (.int .i64) (.pair (.int .i64) (.pair (.sl 71 (.pair (.pair (.sl 2 (.int .i64)) (.pair (.int .i64) .unit)) (.pair (.int .i64) (.pair (.int .i64) .unit)))) (.pair .bool (.pair (.sl 36 (.pair (.int .i64) (.pair (.int .i64) .unit))) .unit))))))
abbrev s80 : S := (.pair (.sl 5 (.int .u8)) (.pair (.int .i64) (.pair (.int .u64) (.pair (.int .i64) .unit))))
abbrev s95 : S := (.sl 94 (.pair (.int .i64) (.pair (.int .i64) (.pair .unit .unit))))
def elm0 : List (TypeId × O) := [(22, (.own .imm)), (23, (.own .imm)), (24, (.pr (.own .imm) .imm)), (25, (.pr (.own .imm) .imm)), (28, (.own (.pr (.own .imm) .imm))), (29, (.pr .imm (.pr .imm (.pr (.own (.pr (.own .imm) .imm)) .imm)))), (30, (.pr .imm (.pr .imm (.pr (.own (.pr (.own .imm) .imm)) .imm)))), (31, (.pr (.pr .imm (.pr .imm (.pr (.own (.pr (.own .imm) .imm)) .imm))) .imm)), (32, (.pr (.pr .imm (.pr .imm (.pr (.own (.pr (.own .imm) .imm)) .imm))) .imm)), (53, (.own .imm)), (58, (.own (.own (.pr (.own .imm) .imm)))), (59, (.pr .imm (.pr (.own (.own (.pr (.own .imm) .imm))) .imm))), (60, (.pr .imm (.pr (.own (.own (.pr (.own .imm) .imm))) .imm))), (61, (.pr (.own .imm) .imm)), (62, (.pr (.own .imm) .imm)), (67, (.own (.pr (.pr (.own .imm) .imm) .imm))), (68, (.pr .imm (.pr .imm (.pr .imm (.pr (.own (.pr (.pr (.own .imm) .imm) .imm)) (.pr .imm (.pr (.own .imm) .imm))))))), (69, (.pr .imm (.pr .imm (.pr .imm (.pr (.own (.pr (.pr (.own .imm) .imm) .imm)) (.pr .imm (.pr (.own .imm) .imm))))))), (70, (.pr (.pr (.own .imm) .imm) .imm)), (71, (.pr (.pr (.own .imm) .imm) .imm)), (80, (.pr (.own .imm) .imm)), (81, (.pr (.own .imm) .imm)), (95, (.own .imm))]
def tys : List (Nat × S) := [(2, (.int .i64)), (3, (.int .i64)), (4, .bool), (5, (.int .u8)), (6, (.int .u8)), (7, (.pair (.int .i64) (.pair (.int .i64) (.pair .bool (.pair (.int .u8) .unit))))), (8, (.pair (.int .i64) (.pair (.int .i64) (.pair .bool (.pair (.int .u8) .unit))))), (9, .str), (10, .str), (11, .str), (12, (.int .u64)), (13, (.pair .str (.pair (.int .u64) .unit))), (14, (.pair .str (.pair (.int .u64) .unit))), (21, (.int .i32)), (22, (.sl 5 (.int .u8))), (23, (.sl 2 (.int .i64))), (24, (.pair (.sl 2 (.int .i64)) (.pair (.int .i64) (.pair (.int .i64) .unit)))), (25, (.pair (.sl 2 (.int .i64)) (.pair (.int .i64) (.pair (.int .i64) .unit)))), (28, (.sl 62 (.pair (.sl 2 (.int .i64)) (.pair (.int .i64) .unit)))), (29, (.pair (.int .i64) (.pair (.int .i64) (.pair (.sl 62 (.pair (.sl 2 (.int .i64)) (.pair (.int .i64) .unit))) (.pair (.int .i64) (.pair (.int .i64) (.pair .bool (.pair (.int .i64) .unit)))))))), (30, (.pair (.int .i64) (.pair (.int .i64) (.pair (.sl 62 (.pair (.sl 2 (.int .i64)) (.pair (.int .i64) .unit))) (.pair (.int .i64) (.pair (.int .i64) (.pair .bool (.pair (.int .i64) .unit)))))))), (31, (.pair (.pair (.int .i64) (.pair (.int .i64) (.pair (.sl 62 (.pair (.sl 2 (.int .i64)) (.pair (.int .i64) .unit))) (.pair (.int .i64) (.pair (.int .i64) (.pair .bool (.pair (.int .i64) .unit))))))) (.pair (.int .i64) (.pair (.int .i64) .unit)))), (32, (.pair (.pair (.int .i64) (.pair (.int .i64) (.pair (.sl 62 (.pair (.sl 2 (.int .i64)) (.pair (.int .i64) .unit))) (.pair (.int .i64) (.pair (.int .i64) (.pair .bool (.pair (.int .i64) .unit))))))) (.pair (.int .i64) (.pair (.int .i64) .unit)))), (35, (.pair (.int .i64) (.pair (.int .i64) .unit))), (36, (.pair (.int .i64) (.pair (.int .i64) .unit))), (53, (.sl 36 (.pair (.int .i64) (.pair (.int .i64) .unit)))), (58, (.sl 28 (.sl 62 (.pair (.sl 2 (.int .i64)) (.pair (.int .i64) .unit))))), (59, (.pair (.int .i64) (.pair (.sl 28 (.sl 62 (.pair (.sl 2 (.int .i64)) (.pair (.int .i64) .unit)))) (.pair (.int .i64) .unit)))), (60, (.pair (.int .i64) (.pair (.sl 28 (.sl 62 (.pair (.sl 2 (.int .i64)) (.pair (.int .i64) .unit)))) (.pair (.int .i64) .unit)))), (61, (.pair (.sl 2 (.int .i64)) (.pair (.int .i64) .unit))), (62, (.pair (.sl 2 (.int .i64)) (.pair (.int .i64) .unit))), (67, (.sl 71 (.pair (.pair (.sl 2 (.int .i64)) (.pair (.int .i64) .unit)) (.pair (.int .i64) (.pair (.int .i64) .unit))))), (68, (.pair (.int .i64) (.pair (.int .i64) (.pair (.int .i64) (.pair (.sl 71 (.pair (.pair (.sl 2 (.int .i64)) (.pair (.int .i64) .unit)) (.pair (.int .i64) (.pair (.int .i64) .unit)))) (.pair .bool (.pair (.sl 36 (.pair (.int .i64) (.pair (.int .i64) .unit))) .unit))))))), (69, (.pair (.int .i64) (.pair (.int .i64) (.pair (.int .i64) (.pair (.sl 71 (.pair (.pair (.sl 2 (.int .i64)) (.pair (.int .i64) .unit)) (.pair (.int .i64) (.pair (.int .i64) .unit)))) (.pair .bool (.pair (.sl 36 (.pair (.int .i64) (.pair (.int .i64) .unit))) .unit))))))), (70, (.pair (.pair (.sl 2 (.int .i64)) (.pair (.int .i64) .unit)) (.pair (.int .i64) (.pair (.int .i64) .unit)))), (71, (.pair (.pair (.sl 2 (.int .i64)) (.pair (.int .i64) .unit)) (.pair (.int .i64) (.pair (.int .i64) .unit)))), (79, (.int .u64)), (80, (.pair (.sl 5 (.int .u8)) (.pair (.int .i64) (.pair (.int .u64) (.pair (.int .i64) .unit))))), (81, (.pair (.sl 5 (.int .u8)) (.pair (.int .i64) (.pair (.int .u64) (.pair (.int .i64) .unit))))), (83, (.int .u64)), (94, (.pair (.int .i64) (.pair (.int .i64) (.pair .unit .unit)))), (95, (.sl 94 (.pair (.int .i64) (.pair (.int .i64) (.pair .unit .unit))))), (104, (.int .u32)), (105, (.int .u8)), (106, (.int .u8)), (109, (.int .i32)), (110, (.int .i32))]
theorem tys_ok : tableOk Try.prog tys = true := by kernel_rfl
theorem mixed : Try.prog.follows .mixedOrders = true := by kernel_rfl
theorem hb13 : hasBody Try.prog 13 := ⟨_, Try.func13, by kernel_rfl, by kernel_rfl⟩
theorem hb16 : hasBody Try.prog 16 := ⟨_, Try.func16, by kernel_rfl, by kernel_rfl⟩
theorem hb57 : hasBody Try.prog 57 := ⟨_, Try.func57, by kernel_rfl, by kernel_rfl⟩
theorem hb40 : hasBody Try.prog 40 := ⟨_, Try.func40, by kernel_rfl, by kernel_rfl⟩
theorem hb17 : hasBody Try.prog 17 := ⟨_, Try.func17, by kernel_rfl, by kernel_rfl⟩
theorem hb14 : hasBody Try.prog 14 := ⟨_, Try.func14, by kernel_rfl, by kernel_rfl⟩
theorem hb15 : hasBody Try.prog 15 := ⟨_, Try.func15, by kernel_rfl, by kernel_rfl⟩
theorem hb18 : hasBody Try.prog 18 := ⟨_, Try.func18, by kernel_rfl, by kernel_rfl⟩
theorem hb4 : hasBody Try.prog 4 := ⟨_, Try.func4, by kernel_rfl, by kernel_rfl⟩
theorem hb41 : hasBody Try.prog 41 := ⟨_, Try.func41, by kernel_rfl, by kernel_rfl⟩
theorem hb19 : hasBody Try.prog 19 := ⟨_, Try.func19, by kernel_rfl, by kernel_rfl⟩
theorem hb20 : hasBody Try.prog 20 := ⟨_, Try.func20, by kernel_rfl, by kernel_rfl⟩
theorem hb21 : hasBody Try.prog 21 := ⟨_, Try.func21, by kernel_rfl, by kernel_rfl⟩
theorem hb42 : hasBody Try.prog 42 := ⟨_, Try.func42, by kernel_rfl, by kernel_rfl⟩
theorem hb58 : hasBody Try.prog 58 := ⟨_, Try.func58, by kernel_rfl, by kernel_rfl⟩
theorem hb64 : hasBody Try.prog 64 := ⟨_, Try.func64, by kernel_rfl, by kernel_rfl⟩
theorem hb65 : hasBody Try.prog 65 := ⟨_, Try.func65, by kernel_rfl, by kernel_rfl⟩
theorem hb66 : hasBody Try.prog 66 := ⟨_, Try.func66, by kernel_rfl, by kernel_rfl⟩
theorem hb59 : hasBody Try.prog 59 := ⟨_, Try.func59, by kernel_rfl, by kernel_rfl⟩
theorem hb43 : hasBody Try.prog 43 := ⟨_, Try.func43, by kernel_rfl, by kernel_rfl⟩
theorem hb44 : hasBody Try.prog 44 := ⟨_, Try.func44, by kernel_rfl, by kernel_rfl⟩
theorem hb45 : hasBody Try.prog 45 := ⟨_, Try.func45, by kernel_rfl, by kernel_rfl⟩
theorem hb24 : hasBody Try.prog 24 := ⟨_, Try.func24, by kernel_rfl, by kernel_rfl⟩
theorem hb22 : hasBody Try.prog 22 := ⟨_, Try.func22, by kernel_rfl, by kernel_rfl⟩
theorem hb23 : hasBody Try.prog 23 := ⟨_, Try.func23, by kernel_rfl, by kernel_rfl⟩
theorem hb5 : hasBody Try.prog 5 := ⟨_, Try.func5, by kernel_rfl, by kernel_rfl⟩
theorem hb7 : hasBody Try.prog 7 := ⟨_, Try.func7, by kernel_rfl, by kernel_rfl⟩
theorem hb25 : hasBody Try.prog 25 := ⟨_, Try.func25, by kernel_rfl, by kernel_rfl⟩
theorem hb30 : hasBody Try.prog 30 := ⟨_, Try.func30, by kernel_rfl, by kernel_rfl⟩
theorem hb52 : hasBody Try.prog 52 := ⟨_, Try.func52, by kernel_rfl, by kernel_rfl⟩
theorem hb61 : hasBody Try.prog 61 := ⟨_, Try.func61, by kernel_rfl, by kernel_rfl⟩
theorem hb67 : hasBody Try.prog 67 := ⟨_, Try.func67, by kernel_rfl, by kernel_rfl⟩
theorem hb60 : hasBody Try.prog 60 := ⟨_, Try.func60, by kernel_rfl, by kernel_rfl⟩
theorem hb46 : hasBody Try.prog 46 := ⟨_, Try.func46, by kernel_rfl, by kernel_rfl⟩
theorem hb51 : hasBody Try.prog 51 := ⟨_, Try.func51, by kernel_rfl, by kernel_rfl⟩
theorem hb32 : hasBody Try.prog 32 := ⟨_, Try.func32, by kernel_rfl, by kernel_rfl⟩
theorem hb47 : hasBody Try.prog 47 := ⟨_, Try.func47, by kernel_rfl, by kernel_rfl⟩
theorem hb33 : hasBody Try.prog 33 := ⟨_, Try.func33, by kernel_rfl, by kernel_rfl⟩
theorem hb26 : hasBody Try.prog 26 := ⟨_, Try.func26, by kernel_rfl, by kernel_rfl⟩
theorem hb27 : hasBody Try.prog 27 := ⟨_, Try.func27, by kernel_rfl, by kernel_rfl⟩
theorem hb62 : hasBody Try.prog 62 := ⟨_, Try.func62, by kernel_rfl, by kernel_rfl⟩
theorem hb53 : hasBody Try.prog 53 := ⟨_, Try.func53, by kernel_rfl, by kernel_rfl⟩
theorem hb63 : hasBody Try.prog 63 := ⟨_, Try.func63, by kernel_rfl, by kernel_rfl⟩
theorem hb50 : hasBody Try.prog 50 := ⟨_, Try.func50, by kernel_rfl, by kernel_rfl⟩
theorem hb48 : hasBody Try.prog 48 := ⟨_, Try.func48, by kernel_rfl, by kernel_rfl⟩
theorem hb49 : hasBody Try.prog 49 := ⟨_, Try.func49, by kernel_rfl, by kernel_rfl⟩
theorem hb38 : hasBody Try.prog 38 := ⟨_, Try.func38, by kernel_rfl, by kernel_rfl⟩
theorem hb28 : hasBody Try.prog 28 := ⟨_, Try.func28, by kernel_rfl, by kernel_rfl⟩
theorem hb29 : hasBody Try.prog 29 := ⟨_, Try.func29, by kernel_rfl, by kernel_rfl⟩
theorem hb31 : hasBody Try.prog 31 := ⟨_, Try.func31, by kernel_rfl, by kernel_rfl⟩
theorem hb6 : hasBody Try.prog 6 := ⟨_, Try.func6, by kernel_rfl, by kernel_rfl⟩
theorem hb8 : hasBody Try.prog 8 := ⟨_, Try.func8, by kernel_rfl, by kernel_rfl⟩
theorem hb34 : hasBody Try.prog 34 := ⟨_, Try.func34, by kernel_rfl, by kernel_rfl⟩
theorem hb35 : hasBody Try.prog 35 := ⟨_, Try.func35, by kernel_rfl, by kernel_rfl⟩
theorem hb36 : hasBody Try.prog 36 := ⟨_, Try.func36, by kernel_rfl, by kernel_rfl⟩
theorem hb9 : hasBody Try.prog 9 := ⟨_, Try.func9, by kernel_rfl, by kernel_rfl⟩
theorem hb37 : hasBody Try.prog 37 := ⟨_, Try.func37, by kernel_rfl, by kernel_rfl⟩
theorem hb10 : hasBody Try.prog 10 := ⟨_, Try.func10, by kernel_rfl, by kernel_rfl⟩
theorem hb11 : hasBody Try.prog 11 := ⟨_, Try.func11, by kernel_rfl, by kernel_rfl⟩
theorem hb56 : hasBody Try.prog 56 := ⟨_, Try.func56, by kernel_rfl, by kernel_rfl⟩
theorem hb55 : hasBody Try.prog 55 := ⟨_, Try.func55, by kernel_rfl, by kernel_rfl⟩
theorem hb54 : hasBody Try.prog 54 := ⟨_, Try.func54, by kernel_rfl, by kernel_rfl⟩
theorem hb39 : hasBody Try.prog 39 := ⟨_, Try.func39, by kernel_rfl, by kernel_rfl⟩
theorem hb12 : hasBody Try.prog 12 := ⟨_, Try.func12, by kernel_rfl, by kernel_rfl⟩
theorem hb3 : hasBody Try.prog 3 := ⟨_, Try.func3, by kernel_rfl, by kernel_rfl⟩
end Go.AE.F
