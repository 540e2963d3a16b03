/- What all contracts of this place lean on: the types, the functions' bodies. -/
import Derived.Test.YtpenpjbobpalcaaA5
import Derived.KernelRfl
import Derived.Test.YtpenpjbobpalcaaProg
namespace Go.AE.F
open Go.AE Go.Proofs
set_option maxRecDepth 100000
abbrev s22 : S := (.sl 35 (.pair (.int .i64) (.pair (.int .i64) (.pair .str (.pair (.int .i64) .unit)))))
abbrev s24 : S := (.sl 52 (.pair (.int .i64) (.pair (.int .i64) .unit)))
abbrev s26 : S := (.sl 43 (.pair (.int .i64) (.pair (.int .i64) (.pair .str (.pair (.int .i64) .unit)))))
abbrev s34 : S := (.pair (.int .i64) (.pair (.int .i64) (.pair .str (.pair (.int .i64) .unit))))
abbrev s40 : S := (.pair (.sl 43 (.pair (.int .i64) (.pair (.int .i64) (.pair .str (.pair (.int .i64) .unit))))) (.pair (.sl 9 .str) (.pair (.sl 52 (.pair (.int .i64) (.pair (.int .i64) .unit))) .unit)))
abbrev s51 : S := (.pair (.int .i64) (.pair (.int .i64) .unit))
abbrev s75 : S := (.map (.int .i64))
def elm0 : List (TypeId × O) := [(22, (.own .imm)), (24, (.own .imm)), (26, (.own .imm)), (38, (.own .imm)), (40, (.pr (.own .imm) (.pr (.own .imm) (.pr (.own .imm) .imm)))), (41, (.pr (.own .imm) (.pr (.own .imm) (.pr (.own .imm) .imm)))), (48, (.pr (.own .imm) (.pr (.own .imm) (.pr (.own .imm) .imm)))), (49, (.pr (.own .imm) (.pr (.own .imm) (.pr (.own .imm) .imm)))), (64, (.own .imm)), (75, (.own .imm))]
def tys : List (Nat × S) := [(2, (.int .i64)), (3, (.int .i64)), (4, .bool), (5, (.int .u8)), (6, (.int .u8)), (7, (.pair (.int .i64) (.pair (.int .i64) (.pair .bool (.pair (.int .u8) .unit))))), (8, (.pair (.int .i64) (.pair (.int .i64) (.pair .bool (.pair (.int .u8) .unit))))), (9, .str), (10, .str), (11, .str), (12, (.int .u64)), (13, (.pair .str (.pair (.int .u64) .unit))), (14, (.pair .str (.pair (.int .u64) .unit))), (21, (.int .i32)), (22, (.sl 35 (.pair (.int .i64) (.pair (.int .i64) (.pair .str (.pair (.int .i64) .unit)))))), (24, (.sl 52 (.pair (.int .i64) (.pair (.int .i64) .unit)))), (26, (.sl 43 (.pair (.int .i64) (.pair (.int .i64) (.pair .str (.pair (.int .i64) .unit)))))), (34, (.pair (.int .i64) (.pair (.int .i64) (.pair .str (.pair (.int .i64) .unit))))), (35, (.pair (.int .i64) (.pair (.int .i64) (.pair .str (.pair (.int .i64) .unit))))), (38, (.sl 9 .str)), (40, (.pair (.sl 43 (.pair (.int .i64) (.pair (.int .i64) (.pair .str (.pair (.int .i64) .unit))))) (.pair (.sl 9 .str) (.pair (.sl 52 (.pair (.int .i64) (.pair (.int .i64) .unit))) .unit)))), (41, (.pair (.sl 43 (.pair (.int .i64) (.pair (.int .i64) (.pair .str (.pair (.int .i64) .unit))))) (.pair (.sl 9 .str) (.pair (.sl 52 (.pair (.int .i64) (.pair (.int .i64) .unit))) .unit)))), (43, (.pair (.int .i64) (.pair (.int .i64) (.pair .str (.pair (.int .i64) .unit))))), (48, (.pair (.sl 43 (.pair (.int .i64) (.pair (.int .i64) (.pair .str (.pair (.int .i64) .unit))))) (.pair (.sl 9 .str) (.pair (.sl 52 (.pair (.int .i64) (.pair (.int .i64) .unit))) .unit)))), (49, (.pair (.sl 43 (.pair (.int .i64) (.pair (.int .i64) (.pair .str (.pair (.int .i64) .unit))))) (.pair (.sl 9 .str) (.pair (.sl 52 (.pair (.int .i64) (.pair (.int .i64) .unit))) .unit)))), (51, (.pair (.int .i64) (.pair (.int .i64) .unit))), (52, (.pair (.int .i64) (.pair (.int .i64) .unit))), (64, (.sl 5 (.int .u8))), (75, (.map (.int .i64))), (84, (.int .u32)), (85, (.int .u8)), (86, (.int .u8)), (89, (.int .i32)), (90, (.int .i32))]
theorem tys_ok : tableOk Try.prog tys = true := by kernel_rfl
theorem mixed : Try.prog.follows .mixedOrders = true := by kernel_rfl
theorem hb13 : hasBody Try.prog 13 := ⟨_, Try.func13, by kernel_rfl, by kernel_rfl⟩
theorem hb4 : hasBody Try.prog 4 := ⟨_, Try.func4, by kernel_rfl, by kernel_rfl⟩
theorem hb17 : hasBody Try.prog 17 := ⟨_, Try.func17, by kernel_rfl, by kernel_rfl⟩
theorem hb6 : hasBody Try.prog 6 := ⟨_, Try.func6, by kernel_rfl, by kernel_rfl⟩
theorem hb50 : hasBody Try.prog 50 := ⟨_, Try.func50, by kernel_rfl, by kernel_rfl⟩
theorem hb55 : hasBody Try.prog 55 := ⟨_, Try.func55, by kernel_rfl, by kernel_rfl⟩
theorem hb51 : hasBody Try.prog 51 := ⟨_, Try.func51, by kernel_rfl, by kernel_rfl⟩
theorem hb48 : hasBody Try.prog 48 := ⟨_, Try.func48, by kernel_rfl, by kernel_rfl⟩
theorem hb41 : hasBody Try.prog 41 := ⟨_, Try.func41, by kernel_rfl, by kernel_rfl⟩
theorem hb27 : hasBody Try.prog 27 := ⟨_, Try.func27, by kernel_rfl, by kernel_rfl⟩
theorem hb37 : hasBody Try.prog 37 := ⟨_, Try.func37, by kernel_rfl, by kernel_rfl⟩
theorem hb38 : hasBody Try.prog 38 := ⟨_, Try.func38, by kernel_rfl, by kernel_rfl⟩
theorem hb39 : hasBody Try.prog 39 := ⟨_, Try.func39, by kernel_rfl, by kernel_rfl⟩
theorem hb40 : hasBody Try.prog 40 := ⟨_, Try.func40, by kernel_rfl, by kernel_rfl⟩
theorem hb23 : hasBody Try.prog 23 := ⟨_, Try.func23, by kernel_rfl, by kernel_rfl⟩
theorem hb15 : hasBody Try.prog 15 := ⟨_, Try.func15, by kernel_rfl, by kernel_rfl⟩
theorem hb14 : hasBody Try.prog 14 := ⟨_, Try.func14, by kernel_rfl, by kernel_rfl⟩
theorem hb24 : hasBody Try.prog 24 := ⟨_, Try.func24, by kernel_rfl, by kernel_rfl⟩
theorem hb25 : hasBody Try.prog 25 := ⟨_, Try.func25, by kernel_rfl, by kernel_rfl⟩
theorem hb26 : hasBody Try.prog 26 := ⟨_, Try.func26, by kernel_rfl, by kernel_rfl⟩
theorem hb28 : hasBody Try.prog 28 := ⟨_, Try.func28, by kernel_rfl, by kernel_rfl⟩
theorem hb16 : hasBody Try.prog 16 := ⟨_, Try.func16, by kernel_rfl, by kernel_rfl⟩
theorem hb5 : hasBody Try.prog 5 := ⟨_, Try.func5, by kernel_rfl, by kernel_rfl⟩
theorem hb43 : hasBody Try.prog 43 := ⟨_, Try.func43, by kernel_rfl, by kernel_rfl⟩
theorem hb42 : hasBody Try.prog 42 := ⟨_, Try.func42, by kernel_rfl, by kernel_rfl⟩
theorem hb52 : hasBody Try.prog 52 := ⟨_, Try.func52, by kernel_rfl, by kernel_rfl⟩
theorem hb53 : hasBody Try.prog 53 := ⟨_, Try.func53, by kernel_rfl, by kernel_rfl⟩
theorem hb34 : hasBody Try.prog 34 := ⟨_, Try.func34, by kernel_rfl, by kernel_rfl⟩
theorem hb31 : hasBody Try.prog 31 := ⟨_, Try.func31, by kernel_rfl, by kernel_rfl⟩
theorem hb54 : hasBody Try.prog 54 := ⟨_, Try.func54, by kernel_rfl, by kernel_rfl⟩
theorem hb49 : hasBody Try.prog 49 := ⟨_, Try.func49, by kernel_rfl, by kernel_rfl⟩
theorem hb47 : hasBody Try.prog 47 := ⟨_, Try.func47, by kernel_rfl, by kernel_rfl⟩
theorem hb44 : hasBody Try.prog 44 := ⟨_, Try.func44, by kernel_rfl, by kernel_rfl⟩
theorem hb30 : hasBody Try.prog 30 := ⟨_, Try.func30, by kernel_rfl, by kernel_rfl⟩
theorem hb45 : hasBody Try.prog 45 := ⟨_, Try.func45, by kernel_rfl, by kernel_rfl⟩
theorem hb29 : hasBody Try.prog 29 := ⟨_, Try.func29, by kernel_rfl, by kernel_rfl⟩
theorem hb18 : hasBody Try.prog 18 := ⟨_, Try.func18, by kernel_rfl, by kernel_rfl⟩
theorem hb32 : hasBody Try.prog 32 := ⟨_, Try.func32, by kernel_rfl, by kernel_rfl⟩
theorem hb46 : hasBody Try.prog 46 := ⟨_, Try.func46, by kernel_rfl, by kernel_rfl⟩
theorem hb33 : hasBody Try.prog 33 := ⟨_, Try.func33, by kernel_rfl, by kernel_rfl⟩
theorem hb35 : hasBody Try.prog 35 := ⟨_, Try.func35, by kernel_rfl, by kernel_rfl⟩
theorem hb36 : hasBody Try.prog 36 := ⟨_, Try.func36, by kernel_rfl, by kernel_rfl⟩
theorem hb19 : hasBody Try.prog 19 := ⟨_, Try.func19, by kernel_rfl, by kernel_rfl⟩
theorem hb7 : hasBody Try.prog 7 := ⟨_, Try.func7, by kernel_rfl, by kernel_rfl⟩
theorem hb20 : hasBody Try.prog 20 := ⟨_, Try.func20, by kernel_rfl, by kernel_rfl⟩
theorem hb8 : hasBody Try.prog 8 := ⟨_, Try.func8, by kernel_rfl, by kernel_rfl⟩
theorem hb21 : hasBody Try.prog 21 := ⟨_, Try.func21, by kernel_rfl, by kernel_rfl⟩
theorem hb9 : hasBody Try.prog 9 := ⟨_, Try.func9, by kernel_rfl, by kernel_rfl⟩
theorem hb22 : hasBody Try.prog 22 := ⟨_, Try.func22, by kernel_rfl, by kernel_rfl⟩
theorem hb10 : hasBody Try.prog 10 := ⟨_, Try.func10, by kernel_rfl, by kernel_rfl⟩
theorem hb11 : hasBody Try.prog 11 := ⟨_, Try.func11, by kernel_rfl, by kernel_rfl⟩
theorem hb12 : hasBody Try.prog 12 := ⟨_, Try.func12, by kernel_rfl, by kernel_rfl⟩
theorem hb3 : hasBody Try.prog 3 := ⟨_, Try.func3, by kernel_rfl, by kernel_rfl⟩
def TB : Hp := Hp.e
theorem tbLe (w : World) : Le TB (memOf w) := fun b o v h => by
  have h : Hp.e b o = some v := h
  cases h
end Go.AE.F
