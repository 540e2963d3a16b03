/- Functions as they are printed out of the program: plain Lean, nothing is claimed here. -/
import Derived.Test.YtmokidikfomifaaGreatXMachineRunF6
noncomputable section
namespace Go.AE.F
open Go.AE
def impl_scene_took (N : Nat) (a0 : (List (Int) × Int × Int × Unit) × Int × Int × Int × Unit) (a1 : (List (Int) × Int × Int × Unit) × List (Int) × Int × Unit) : Option ((List Int × Int × Int × Unit) × Int × Int × Int × Unit) :=
 ifB (pNe a1.2.2.1 0) (
 some (a0.1, (a0.2.1, (a0.2.2.1, (a1.2.2.1, a0.2.2.2.2))))) (
 some (a1.1, a0.2))
def impl_scene_insert (N : Nat) (a0 : (List (Int) × Int × Int × Unit) × Int × Int × Int × Unit) (a1 : Int) : Option ((List Int × Int × Int × Unit) × Int × Int × Int × Unit) :=
 bindO (impl_isPoint N a1) fun y3 =>
 ifB (pNot y3) (
 some (a0.1, (a0.2.1, (a0.2.2.1, (8, a0.2.2.2.2))))) (
 bindO (impl_replace N a0.1 a0.1.2.1 a0.1.2.1 [a1]) fun y4 =>
 bindO (impl_scene_took N a0 y4) fun y5 =>
 some y5)
def impl_scene_delete (N : Nat) (a0 : (List (Int) × Int × Int × Unit) × Int × Int × Int × Unit) (a1 : Int) (a2 : Int) : Option ((List Int × Int × Int × Unit) × Int × Int × Int × Unit) :=
 bindO (impl_replace N a0.1 a1 a2 []) fun y2 =>
 bindO (impl_scene_took N a0 y2) fun y3 =>
 some y3
def impl_scene_goTo (N : Nat) (a0 : (List (Int) × Int × Int × Unit) × Int × Int × Int × Unit) (a1 : Int) : Option ((List Int × Int × Int × Unit) × Int × Int × Int × Unit) :=
 bindO (impl_Buf_isPlace N a0.1 a1) fun y1 =>
 ifB (pNot y1) (
 some (a0.1, (a0.2.1, (a0.2.2.1, (8, a0.2.2.2.2))))) (
 some ((a0.1.1, (a1, a0.1.2.2)), a0.2))
def impl_scene_markAt (N : Nat) (a0 : (List (Int) × Int × Int × Unit) × Int × Int × Int × Unit) (a1 : Int) : Option ((List Int × Int × Int × Unit) × Int × Int × Int × Unit) :=
 bindO (impl_Buf_isPlace N a0.1 a1) fun y1 =>
 ifB (pNot y1) (
 some (a0.1, (a0.2.1, (a0.2.2.1, (8, a0.2.2.2.2))))) (
 some ((a0.1.1, (a0.1.2.1, (a1, a0.1.2.2.2))), a0.2))
end Go.AE.F
end
