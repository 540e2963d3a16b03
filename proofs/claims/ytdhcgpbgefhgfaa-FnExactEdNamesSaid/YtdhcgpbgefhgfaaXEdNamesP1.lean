/- Plain laws of those functions. -/
import Derived.Test.YtdhcgpbgefhgfaaXEdNamesF5
import Derived.IntWalk
import Derived.KernelRfl
namespace Go.AE.F
open Go.AE
theorem pure_FnExactEdNames : ∃ N, laws_FnExactEdNames N = some true := ⟨64, by kernel_rfl⟩
end Go.AE.F
