/- What all contracts of this place lean on: the types, the functions' bodies. -/
import Derived.Test.YtdjhkphgnhbnjaaA4
import Derived.KernelRfl
import Derived.Test.YtdjhkphgnhbnjaaProg
namespace Go.AE.F
open Go.AE Go.Proofs
set_option maxRecDepth 100000
def tys : List (Nat × S) := [(2, (.int .i64)), (3, (.int .i64)), (4, .bool), (5, (.int .u8)), (6, (.int .u8)), (7, (.pair (.int .i64) (.pair (.int .i64) (.pair .bool (.pair (.int .u8) .unit))))), (8, (.pair (.int .i64) (.pair (.int .i64) (.pair .bool (.pair (.int .u8) .unit))))), (9, .str), (10, .str), (11, .str), (12, (.int .u64)), (13, (.pair .str (.pair (.int .u64) .unit))), (14, (.pair .str (.pair (.int .u64) .unit))), (21, (.int .i32)), (24, (.sl 29 (.sl 2 (.int .i64)))), (29, (.sl 2 (.int .i64))), (30, (.pair (.sl 2 (.int .i64)) (.pair (.int .i64) (.pair (.int .i64) .unit)))), (31, (.pair (.sl 2 (.int .i64)) (.pair (.int .i64) (.pair (.int .i64) .unit)))), (34, (.pair (.sl 2 (.int .i64)) (.pair (.int .i64) (.pair (.int .i64) .unit)))), (45, (.sl 5 (.int .u8))), (46, (.int .u64)), (59, (.sl 9 .str)), (73, (.int .u32)), (74, (.int .u8)), (75, (.int .u8)), (78, (.int .i32)), (79, (.int .i32))]
theorem tys_ok : tableOk Try.prog tys = true := by kernel_rfl
theorem mixed : Try.prog.follows .mixedOrders = true := by kernel_rfl
theorem hb27 : hasBody Try.prog 27 := ⟨_, Try.func27, by kernel_rfl, by kernel_rfl⟩
theorem hb7 : hasBody Try.prog 7 := ⟨_, Try.func7, by kernel_rfl, by kernel_rfl⟩
theorem hb49 : hasBody Try.prog 49 := ⟨_, Try.func49, by kernel_rfl, by kernel_rfl⟩
theorem hb60 : hasBody Try.prog 60 := ⟨_, Try.func60, by kernel_rfl, by kernel_rfl⟩
theorem hb48 : hasBody Try.prog 48 := ⟨_, Try.func48, by kernel_rfl, by kernel_rfl⟩
theorem hb28 : hasBody Try.prog 28 := ⟨_, Try.func28, by kernel_rfl, by kernel_rfl⟩
theorem hb8 : hasBody Try.prog 8 := ⟨_, Try.func8, by kernel_rfl, by kernel_rfl⟩
theorem hb3 : hasBody Try.prog 3 := ⟨_, Try.func3, by kernel_rfl, by kernel_rfl⟩
end Go.AE.F
