/- Functions as they are printed out of the program: plain Lean, nothing is claimed here. -/
import Derived.Test.YtodaoiddmhenpaaDoorXSendRowF3
noncomputable section
namespace Go.AE.F
open Go.AE
def laws_eqCellS.l4 {R : Type} (N : Nat) (d : (List (List Int × Int × Unit)) × (List (List Int × Int × Unit)) × Int × Unit) (kn : (List (List Int × Int × Unit)) × (List (List Int × Int × Unit)) × Int × Unit → Option R) (kx : (Unit) ⊕ (Bool × Unit) → Option R) : Option R :=
 let x16 := d.1;
 let x17 := d.2.1;
 let x18 := d.2.2.1;
 ifB (pLt x18 (pLen x16)) (
 bindO (idx x16 x18) fun y19 =>
 bindO (idx x17 x18) fun y20 =>
 bindO (laws_eqCell N y19 y20) fun y21 =>
 ifB (pNot y21) (
 kx (.inr (false, ()))) (
 kn (x16, x17, (pAdd .i64 x18 1), ()))) (
 kx (.inl (())))
def laws_eqCellS (N : Nat) (a0 : List (List (Int) × Int × Unit)) (a1 : List (List (Int) × Int × Unit)) : Option (Bool) :=
 ifB (pNe (pLen a0) (pLen a1)) (
 some false) (
 loopP (laws_eqCellS.l4 N) N (a0, a1, 0, ()) (
 onSum (fun d =>
 some true) (
 fun d =>
 let x22 := d.1;
 some x22)))
def laws_eqGrid (N : Nat) (a0 : Int × Int × (List (List (Int) × Int × Unit)) × Int × Int × Bool × Int × Unit) (a1 : Int × Int × (List (List (Int) × Int × Unit)) × Int × Int × Bool × Int × Unit) : Option (Bool) :=
 ifB (pNe a0.1 a1.1) (
 some false) (
 ifB (pNe a0.2.1 a1.2.1) (
 some false) (
 bindO (laws_eqCellS N a0.2.2.1 a1.2.2.1) fun y1 =>
 ifB (pNot y1) (
 some false) (
 ifB (pNe a0.2.2.2.1 a1.2.2.2.1) (
 some false) (
 ifB (pNe a0.2.2.2.2.1 a1.2.2.2.2.1) (
 some false) (
 ifB (pNot (pBeq a0.2.2.2.2.2.1 a1.2.2.2.2.2.1)) (
 some false) (
 ifB (pNe a0.2.2.2.2.2.2.1 a1.2.2.2.2.2.2.1) (
 some false) (
 some true)))))))
def laws_FnExactSendRow (N : Nat) (a0 : Int × Int × (List (List (Int) × Int × Unit)) × Int × Int × Bool × Int × Unit) (a1 : Int) : Option (Bool) :=
 bindO (laws_szGrid N a0 1048576) fun y7 =>
 ifB (pLt y7 0) (
 some true) (
 bindO (laws_toGrid N a0) fun y8 =>
 bindO (spec_SendRow N y8 a1) fun y9 =>
 bindO (laws_toGrid N a0) fun y10 =>
 bindO (impl_SendRow N y10 a1) fun y11 =>
 ifB (pNot (pSEq y11 y9)) (
 some false) (
 bindO (laws_toGrid N a0) fun y12 =>
 bindO (laws_eqGrid N y10 y12) fun y13 =>
 ifB (pNot y13) (
 some false) (
 some true)))
end Go.AE.F
end
