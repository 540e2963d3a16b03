/- Functions as they are printed out of the program: plain Lean, nothing is claimed here. -/
import Derived.Test.YtmokidikfomifaaGreatXMachineRunF9
noncomputable section
namespace Go.AE.F
open Go.AE
def laws_FnExactMachineRun (N : Nat) (a0 : List (Int × Int × Unit)) (a1 : List (Int) × Int × Int × Unit) (a2 : Int) : Option (Bool) :=
 bindO (laws_szOpS N a0 1048576) fun y24 =>
 ifB (pLt y24 0) (
 some true) (
 bindO (laws_szBuf N a1 y24) fun y25 =>
 ifB (pLt y25 0) (
 some true) (
 bindO (laws_toOpS N a0) fun y26 =>
 bindO (laws_toBuf N a1) fun y27 =>
 bindO (spec_MachineRun N y26 y27 a2) fun y28 =>
 bindO (laws_toOpS N a0) fun y29 =>
 bindO (laws_toBuf N a1) fun y30 =>
 bindO (impl_MachineRun N y29 y30 a2) fun y31 =>
 bindO (laws_eqRan N y31 y28) fun y32 =>
 ifB (pNot y32) (
 some false) (
 bindO (laws_toOpS N a0) fun y33 =>
 bindO (laws_eqOpS N y29 y33) fun y34 =>
 ifB (pNot y34) (
 some false) (
 bindO (laws_toBuf N a1) fun y35 =>
 bindO (laws_eqBuf N y30 y35) fun y36 =>
 ifB (pNot y36) (
 some false) (
 bindO (laws_markOpS N y29 1) fun y37 =>
 bindO (laws_markBuf N y30 y37.1) fun y38 =>
 bindO (
 ifB (pLt y38.1 0) (
 some true) (
 bindO (laws_eqRan N y31 y28) fun y40 =>
 some (pNot y40))) fun y39 =>
 ifB y39 (
 some false) (
 bindO (laws_markRan N y31 1) fun y41 =>
 bindO (laws_heldRan N y41.2 1) fun y42 =>
 ifB (pLt y42 0) (
 some false) (
 ifB (pNe y42 y41.1) (
 some false) (
 bindO (laws_toOpS N a0) fun y43 =>
 bindO (laws_toBuf N a1) fun y44 =>
 bindO (impl_MachineRun N y43 y44 a2) fun y45 =>
 bindO (laws_eqRan N y45 y28) fun y46 =>
 ifB (pNot y46) (
 some false) (
 bindO (laws_heldRan N y41.2 1) fun y47 =>
 ifB (pLt y47 0) (
 some false) (
 ifB (pNe y47 y41.1) (
 some false) (
 some true)))))))))))
end Go.AE.F
end
