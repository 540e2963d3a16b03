/- Functions as they are printed out of the program: plain Lean, nothing is claimed here. -/
import Derived.Test.YtdhcgpbgefhgfaaXEdNamesF4
noncomputable section
namespace Go.AE.F
open Go.AE
def laws_heldStringS (N : Nat) (a0 : List (ByteArray)) (a1 : Int) : Option (Int) :=
 loopP (laws_heldStringS.l2 N) N (a0, a1, 0, ()) (
 onSum (fun d =>
 let x19 := d.1;
 some x19) (
 fun d =>
 let x20 := d.1;
 some x20))
def laws_FnExactEdNames (N : Nat) : Option (Bool) :=
 bindO (spec_EdNames N) fun y8 =>
 bindO (impl_EdNames N) fun y9 =>
 bindO (laws_eqStringS N y9 y8) fun y10 =>
 ifB (pNot y10) (
 some false) (
 bindO (laws_markStringS N y9 1) fun y11 =>
 bindO (laws_heldStringS N y11.2 1) fun y12 =>
 ifB (pLt y12 0) (
 some false) (
 ifB (pNe y12 y11.1) (
 some false) (
 bindO (impl_EdNames N) fun y13 =>
 bindO (laws_eqStringS N y13 y8) fun y14 =>
 ifB (pNot y14) (
 some false) (
 bindO (laws_heldStringS N y11.2 1) fun y15 =>
 ifB (pLt y15 0) (
 some false) (
 ifB (pNe y15 y11.1) (
 some false) (
 some true))))))
end Go.AE.F
end
