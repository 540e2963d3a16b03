/- Functions as they are printed out of the program: plain Lean, nothing is claimed here. -/
import Derived.Test.YtgmekdclnhpchaaLViewF4
noncomputable section
namespace Go.AE.F
open Go.AE
def zBR (N : Nat) (a0 : List (Int)) : Option (Bool) :=
 ifB (pGt (pLen a0) 1048576) (
 some true) (
 bindO (zB6 N a0) fun y18 =>
 bindO (zA8 N y18.1 y18.2.1 y18.2.2.1 y18.2.2.2.1 y18.2.2.2.2) fun y19 =>
 bindO (zBO N y18.1) fun y20 =>
 bindO (zAJ N y20 y18.2.1 y18.2.2.1 y18.2.2.2.1 y18.2.2.2.2) fun y21 =>
 ifB (pNe y21.2.2.1 y19.2.2.1) (
 some false) (
 ifB (pNe y19.2.2.1 0) (
 some true) (
 bindO (zBO N y18.1) fun y22 =>
 bindO (zBF N y22 y18.2.1 y18.2.1.2.1 y18.2.2.2.2) fun y23 =>
 bindO (zAA N y21.1) fun y24 =>
 bindO (
 ifB (pNot y24) (
 some true) (
 bindO (zAC N y21.1) fun y26 =>
 some (pNot y26))) fun y25 =>
 bindO (
 ifB y25 (
 some true) (
 some (pNe y21.1.1 y18.2.2.2.1))) fun y27 =>
 bindO (
 ifB y27 (
 some true) (
 some (pNe y21.1.2.1 y18.2.2.2.2))) fun y28 =>
 bindO (
 ifB y28 (
 some true) (
 some (pNe (pAdd .i64 y21.2.1 y21.1.2.2.2.1) y23.1))) fun y29 =>
 bindO (
 ifB y29 (
 some true) (
 some (pNe y21.1.2.2.2.2.1 y23.2.1))) fun y30 =>
 ifB y30 (
 some false) (
 bindO (
 ifB (pGt y21.2.1 0) (
 some (pNe y21.1.2.2.2.1 (pSub .i64 y18.2.2.2.1 1))) (
 some false)) fun y31 =>
 bindO (
 ifB y31 (
 some true) (
 some (pLt y21.2.1 0))) fun y32 =>
 ifB y32 (
 some false) (
 bindO (zBO N y18.1) fun y33 =>
 bindO (zBL N y33 y18.2.1 y18.2.2.2.2) fun y34 =>
 ifB (pLt y23.1 y34) (
 bindO (zBK N y21.1 y19.1) fun y35 =>
 some y35) (
 some false))))))
end Go.AE.F
end
