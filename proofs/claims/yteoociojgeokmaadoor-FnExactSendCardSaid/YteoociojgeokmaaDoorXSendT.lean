/- What all contracts of this place lean on: the types, the functions' bodies. -/
import Derived.Test.YteoociojgeokmaaDoorA6
import Derived.KernelRfl
import Derived.WalkKit
import Derived.Lib.Strings
import Derived.Lib.Slices
import Derived.Lib.Walk
import Derived.Lib.AppendStr
import Derived.Lib.UnsafeStr
import Derived.Lib.MakeNoZero
import Derived.Laws.Externs
import Derived.Laws.IdiomCopy
import Derived.Laws.BitsLemmas
import Derived.Shelf.RegionOpenPlain
import Derived.Test.YteoociojgeokmaaDoorProg
namespace Go.AE.F
open Go.AE Go.Proofs
set_option maxRecDepth 100000
abbrev s22 : S := (.sl 55 (.pair (.sl 2 (.int .i64)) (.pair (.int .i64) .unit)))
abbrev s23 : S := (.pair (.int .i64) (.pair (.int .i64) (.pair (.sl 55 (.pair (.sl 2 (.int .i64)) (.pair (.int .i64) .unit))) (.pair (.int .i64) (.pair (.int .i64) (.pair .bool (.pair (.int .i64) .unit)))))))
abbrev s27 : S := (.sl 38 (.pair (.sl 2 (.int .i64)) (.pair (.int .i64) .unit)))
abbrev s28 : S := (.pair (.int .i64) (.pair (.int .i64) (.pair (.sl 38 (.pair (.sl 2 (.int .i64)) (.pair (.int .i64) .unit))) (.pair (.int .i64) (.pair (.int .i64) (.pair .bool (.pair (.int .i64) .unit)))))))
abbrev s35 : S := (.sl 5 (.int .u8))
abbrev s36 : S := (.sl 2 (.int .i64))
abbrev s37 : S := (.pair (.sl 2 (.int .i64)) (.pair (.int .i64) .unit))
abbrev s80 : S := (.sl 79 (.pair (.int .i64) (.pair (.int .i64) (.pair .unit .unit))))
def elm0 : List (TypeId × O) := [(22, (.own (.pr (.own .imm) .imm))), (23, (.pr .imm (.pr .imm (.pr (.own (.pr (.own .imm) .imm)) .imm)))), (24, (.pr .imm (.pr .imm (.pr (.own (.pr (.own .imm) .imm)) .imm)))), (27, (.own (.pr (.own .imm) .imm))), (28, (.pr .imm (.pr .imm (.pr (.own (.pr (.own .imm) .imm)) .imm)))), (29, (.pr .imm (.pr .imm (.pr (.own (.pr (.own .imm) .imm)) .imm)))), (35, (.own .imm)), (36, (.own .imm)), (37, (.pr (.own .imm) .imm)), (38, (.pr (.own .imm) .imm)), (55, (.pr (.own .imm) .imm)), (80, (.own .imm))]
def tys : List (Nat × S) := [(2, (.int .i64)), (3, (.int .i64)), (4, .bool), (5, (.int .u8)), (6, (.int .u8)), (7, (.pair (.int .i64) (.pair (.int .i64) (.pair .bool (.pair (.int .u8) .unit))))), (8, (.pair (.int .i64) (.pair (.int .i64) (.pair .bool (.pair (.int .u8) .unit))))), (9, .str), (10, .str), (11, .str), (12, (.int .u64)), (13, (.pair .str (.pair (.int .u64) .unit))), (14, (.pair .str (.pair (.int .u64) .unit))), (21, (.int .i32)), (22, (.sl 55 (.pair (.sl 2 (.int .i64)) (.pair (.int .i64) .unit)))), (23, (.pair (.int .i64) (.pair (.int .i64) (.pair (.sl 55 (.pair (.sl 2 (.int .i64)) (.pair (.int .i64) .unit))) (.pair (.int .i64) (.pair (.int .i64) (.pair .bool (.pair (.int .i64) .unit)))))))), (24, (.pair (.int .i64) (.pair (.int .i64) (.pair (.sl 55 (.pair (.sl 2 (.int .i64)) (.pair (.int .i64) .unit))) (.pair (.int .i64) (.pair (.int .i64) (.pair .bool (.pair (.int .i64) .unit)))))))), (27, (.sl 38 (.pair (.sl 2 (.int .i64)) (.pair (.int .i64) .unit)))), (28, (.pair (.int .i64) (.pair (.int .i64) (.pair (.sl 38 (.pair (.sl 2 (.int .i64)) (.pair (.int .i64) .unit))) (.pair (.int .i64) (.pair (.int .i64) (.pair .bool (.pair (.int .i64) .unit)))))))), (29, (.pair (.int .i64) (.pair (.int .i64) (.pair (.sl 38 (.pair (.sl 2 (.int .i64)) (.pair (.int .i64) .unit))) (.pair (.int .i64) (.pair (.int .i64) (.pair .bool (.pair (.int .i64) .unit)))))))), (35, (.sl 5 (.int .u8))), (36, (.sl 2 (.int .i64))), (37, (.pair (.sl 2 (.int .i64)) (.pair (.int .i64) .unit))), (38, (.pair (.sl 2 (.int .i64)) (.pair (.int .i64) .unit))), (55, (.pair (.sl 2 (.int .i64)) (.pair (.int .i64) .unit))), (78, (.int .u32)), (79, (.pair (.int .i64) (.pair (.int .i64) (.pair .unit .unit)))), (80, (.sl 79 (.pair (.int .i64) (.pair (.int .i64) (.pair .unit .unit))))), (83, (.int .u64)), (88, (.int .u64)), (103, (.int .u8)), (104, (.int .u8)), (106, (.int .i32)), (107, (.int .i32))]
theorem tys_ok : tableOk Tryd.prog tys = true := by kernel_rfl
theorem mixed : Tryd.prog.follows .mixedOrders = true := by kernel_rfl
theorem hb39 : hasBody Tryd.prog 39 := ⟨_, Tryd.func39, by kernel_rfl, by kernel_rfl⟩
theorem hb23 : hasBody Tryd.prog 23 := ⟨_, Tryd.func23, by kernel_rfl, by kernel_rfl⟩
theorem hb9 : hasBody Tryd.prog 9 := ⟨_, Tryd.func9, by kernel_rfl, by kernel_rfl⟩
theorem hb4 : hasBody Tryd.prog 4 := ⟨_, Tryd.func4, by kernel_rfl, by kernel_rfl⟩
theorem hb44 : hasBody Tryd.prog 44 := ⟨_, Tryd.func44, by kernel_rfl, by kernel_rfl⟩
theorem hb27 : hasBody Tryd.prog 27 := ⟨_, Tryd.func27, by kernel_rfl, by kernel_rfl⟩
theorem hb14 : hasBody Tryd.prog 14 := ⟨_, Tryd.func14, by kernel_rfl, by kernel_rfl⟩
theorem hb6 : hasBody Tryd.prog 6 := ⟨_, Tryd.func6, by kernel_rfl, by kernel_rfl⟩
theorem hb40 : hasBody Tryd.prog 40 := ⟨_, Tryd.func40, by kernel_rfl, by kernel_rfl⟩
theorem hb54 : hasBody Tryd.prog 54 := ⟨_, Tryd.func54, by kernel_rfl, by kernel_rfl⟩
theorem hb55 : hasBody Tryd.prog 55 := ⟨_, Tryd.func55, by kernel_rfl, by kernel_rfl⟩
theorem hb41 : hasBody Tryd.prog 41 := ⟨_, Tryd.func41, by kernel_rfl, by kernel_rfl⟩
theorem hb42 : hasBody Tryd.prog 42 := ⟨_, Tryd.func42, by kernel_rfl, by kernel_rfl⟩
theorem hb24 : hasBody Tryd.prog 24 := ⟨_, Tryd.func24, by kernel_rfl, by kernel_rfl⟩
theorem hb25 : hasBody Tryd.prog 25 := ⟨_, Tryd.func25, by kernel_rfl, by kernel_rfl⟩
theorem hb10 : hasBody Tryd.prog 10 := ⟨_, Tryd.func10, by kernel_rfl, by kernel_rfl⟩
theorem hb11 : hasBody Tryd.prog 11 := ⟨_, Tryd.func11, by kernel_rfl, by kernel_rfl⟩
theorem hb13 : hasBody Tryd.prog 13 := ⟨_, Tryd.func13, by kernel_rfl, by kernel_rfl⟩
theorem hb43 : hasBody Tryd.prog 43 := ⟨_, Tryd.func43, by kernel_rfl, by kernel_rfl⟩
theorem hb26 : hasBody Tryd.prog 26 := ⟨_, Tryd.func26, by kernel_rfl, by kernel_rfl⟩
theorem hb12 : hasBody Tryd.prog 12 := ⟨_, Tryd.func12, by kernel_rfl, by kernel_rfl⟩
theorem hb5 : hasBody Tryd.prog 5 := ⟨_, Tryd.func5, by kernel_rfl, by kernel_rfl⟩
theorem hb47 : hasBody Tryd.prog 47 := ⟨_, Tryd.func47, by kernel_rfl, by kernel_rfl⟩
theorem hb45 : hasBody Tryd.prog 45 := ⟨_, Tryd.func45, by kernel_rfl, by kernel_rfl⟩
theorem hb46 : hasBody Tryd.prog 46 := ⟨_, Tryd.func46, by kernel_rfl, by kernel_rfl⟩
theorem hb29 : hasBody Tryd.prog 29 := ⟨_, Tryd.func29, by kernel_rfl, by kernel_rfl⟩
theorem hb56 : hasBody Tryd.prog 56 := ⟨_, Tryd.func56, by kernel_rfl, by kernel_rfl⟩
theorem hb57 : hasBody Tryd.prog 57 := ⟨_, Tryd.func57, by kernel_rfl, by kernel_rfl⟩
theorem hb58 : hasBody Tryd.prog 58 := ⟨_, Tryd.func58, by kernel_rfl, by kernel_rfl⟩
theorem hb48 : hasBody Tryd.prog 48 := ⟨_, Tryd.func48, by kernel_rfl, by kernel_rfl⟩
theorem hb49 : hasBody Tryd.prog 49 := ⟨_, Tryd.func49, by kernel_rfl, by kernel_rfl⟩
theorem hb31 : hasBody Tryd.prog 31 := ⟨_, Tryd.func31, by kernel_rfl, by kernel_rfl⟩
theorem hb28 : hasBody Tryd.prog 28 := ⟨_, Tryd.func28, by kernel_rfl, by kernel_rfl⟩
theorem hb30 : hasBody Tryd.prog 30 := ⟨_, Tryd.func30, by kernel_rfl, by kernel_rfl⟩
theorem hb15 : hasBody Tryd.prog 15 := ⟨_, Tryd.func15, by kernel_rfl, by kernel_rfl⟩
theorem hb34 : hasBody Tryd.prog 34 := ⟨_, Tryd.func34, by kernel_rfl, by kernel_rfl⟩
theorem hb33 : hasBody Tryd.prog 33 := ⟨_, Tryd.func33, by kernel_rfl, by kernel_rfl⟩
theorem hb32 : hasBody Tryd.prog 32 := ⟨_, Tryd.func32, by kernel_rfl, by kernel_rfl⟩
theorem hb16 : hasBody Tryd.prog 16 := ⟨_, Tryd.func16, by kernel_rfl, by kernel_rfl⟩
theorem hb61 : hasBody Tryd.prog 61 := ⟨_, Tryd.func61, by kernel_rfl, by kernel_rfl⟩
theorem hb59 : hasBody Tryd.prog 59 := ⟨_, Tryd.func59, by kernel_rfl, by kernel_rfl⟩
theorem hb51 : hasBody Tryd.prog 51 := ⟨_, Tryd.func51, by kernel_rfl, by kernel_rfl⟩
theorem hb36 : hasBody Tryd.prog 36 := ⟨_, Tryd.func36, by kernel_rfl, by kernel_rfl⟩
theorem hb20 : hasBody Tryd.prog 20 := ⟨_, Tryd.func20, by kernel_rfl, by kernel_rfl⟩
theorem hb17 : hasBody Tryd.prog 17 := ⟨_, Tryd.func17, by kernel_rfl, by kernel_rfl⟩
theorem hb60 : hasBody Tryd.prog 60 := ⟨_, Tryd.func60, by kernel_rfl, by kernel_rfl⟩
theorem hb52 : hasBody Tryd.prog 52 := ⟨_, Tryd.func52, by kernel_rfl, by kernel_rfl⟩
theorem hb37 : hasBody Tryd.prog 37 := ⟨_, Tryd.func37, by kernel_rfl, by kernel_rfl⟩
theorem hb21 : hasBody Tryd.prog 21 := ⟨_, Tryd.func21, by kernel_rfl, by kernel_rfl⟩
theorem hb18 : hasBody Tryd.prog 18 := ⟨_, Tryd.func18, by kernel_rfl, by kernel_rfl⟩
theorem hb19 : hasBody Tryd.prog 19 := ⟨_, Tryd.func19, by kernel_rfl, by kernel_rfl⟩
theorem hb7 : hasBody Tryd.prog 7 := ⟨_, Tryd.func7, by kernel_rfl, by kernel_rfl⟩
theorem hb53 : hasBody Tryd.prog 53 := ⟨_, Tryd.func53, by kernel_rfl, by kernel_rfl⟩
theorem hb38 : hasBody Tryd.prog 38 := ⟨_, Tryd.func38, by kernel_rfl, by kernel_rfl⟩
theorem hb22 : hasBody Tryd.prog 22 := ⟨_, Tryd.func22, by kernel_rfl, by kernel_rfl⟩
theorem hb8 : hasBody Tryd.prog 8 := ⟨_, Tryd.func8, by kernel_rfl, by kernel_rfl⟩
theorem hb3 : hasBody Tryd.prog 3 := ⟨_, Tryd.func3, by kernel_rfl, by kernel_rfl⟩
end Go.AE.F
