/- Functions as they are printed out of the program: plain Lean, nothing is claimed here. -/
import Derived.Test.YthiefncabaphpaaXMachineStepsF5
noncomputable section
namespace Go.AE.F
open Go.AE
def spec_l11Motion (N : Nat) (a0 : ByteArray) : Option (Int) :=
 bindO (spec_l11Motions N) fun y14 =>
 loopP (spec_l11Motion.l3 N) N (a0, 1, y14, ()) (
 onSum (fun d =>
 some 0) (
 fun d =>
 let x20 := d.1;
 some x20))
def spec_BufMove (N : Nat) (a0 : List (Int) × Int × Int × Unit) (a1 : Int) (a2 : Int) (a3 : Int) : Option (List Int × Int × Int × Unit) :=
 bindO (spec_l02Copy N a0) fun y2 =>
 bindO (spec_Motion N a0 a1 a2 a3) fun y3 =>
 ifB (pGe y3 0) (
 some (y2.1, (y3, y2.2.2))) (
 some y2)
def spec_l12Op (N : Nat) (a0 : Int) (a1 : Int) (a2 : Int) : Option (Int × Int) :=
 ifB (pEq a0 18) (
 bindO (
 ifB (pNe a1 0) (
 some true) (
 some (pNe a2 0))) fun y16 =>
 ifB y16 (
 bindO (
 ifB (pLt 1 (-1000000000)) (
 some true) (
 some (pGt 1 1000000000))) fun y17 =>
 ifB y17 (
 some (0, 8)) (
 some (1, 0))) (
 bindO (
 ifB (pLt 0 (-1000000000)) (
 some true) (
 some (pGt 0 1000000000))) fun y18 =>
 ifB y18 (
 some (0, 8)) (
 some (0, 0)))) (
 ifB (pEq a0 19) (
 bindO (
 ifB (pNe a1 0) (
 some (pNe a2 0)) (
 some false)) fun y19 =>
 ifB y19 (
 bindO (
 ifB (pLt 1 (-1000000000)) (
 some true) (
 some (pGt 1 1000000000))) fun y20 =>
 ifB y20 (
 some (0, 8)) (
 some (1, 0))) (
 bindO (
 ifB (pLt 0 (-1000000000)) (
 some true) (
 some (pGt 0 1000000000))) fun y21 =>
 ifB y21 (
 some (0, 8)) (
 some (0, 0)))) (
 ifB (pEq a0 20) (
 ifB (pLt a1 a2) (
 bindO (
 ifB (pLt 1 (-1000000000)) (
 some true) (
 some (pGt 1 1000000000))) fun y22 =>
 ifB y22 (
 some (0, 8)) (
 some (1, 0))) (
 bindO (
 ifB (pLt 0 (-1000000000)) (
 some true) (
 some (pGt 0 1000000000))) fun y23 =>
 ifB y23 (
 some (0, 8)) (
 some (0, 0)))) (
 ifB (pEq a0 21) (
 ifB (pEq a1 a2) (
 bindO (
 ifB (pLt 1 (-1000000000)) (
 some true) (
 some (pGt 1 1000000000))) fun y24 =>
 ifB y24 (
 some (0, 8)) (
 some (1, 0))) (
 bindO (
 ifB (pLt 0 (-1000000000)) (
 some true) (
 some (pGt 0 1000000000))) fun y25 =>
 ifB y25 (
 some (0, 8)) (
 some (0, 0)))) (
 ifB (pEq a0 22) (
 ifB (pGt a1 a2) (
 bindO (
 ifB (pLt 1 (-1000000000)) (
 some true) (
 some (pGt 1 1000000000))) fun y26 =>
 ifB y26 (
 some (0, 8)) (
 some (1, 0))) (
 bindO (
 ifB (pLt 0 (-1000000000)) (
 some true) (
 some (pGt 0 1000000000))) fun y27 =>
 ifB y27 (
 some (0, 8)) (
 some (0, 0)))) (
 ifB (pEq a0 23) (
 bindO (
 ifB (pLt (pAdd .i64 a1 a2) (-1000000000)) (
 some true) (
 some (pGt (pAdd .i64 a1 a2) 1000000000))) fun y28 =>
 ifB y28 (
 some (0, 8)) (
 some ((pAdd .i64 a1 a2), 0))) (
 ifB (pEq a0 24) (
 bindO (
 ifB (pLt (pSub .i64 a1 a2) (-1000000000)) (
 some true) (
 some (pGt (pSub .i64 a1 a2) 1000000000))) fun y29 =>
 ifB y29 (
 some (0, 8)) (
 some ((pSub .i64 a1 a2), 0))) (
 ifB (pEq a0 25) (
 bindO (
 ifB (pLt (pMul .i64 a1 a2) (-1000000000)) (
 some true) (
 some (pGt (pMul .i64 a1 a2) 1000000000))) fun y30 =>
 ifB y30 (
 some (0, 8)) (
 some ((pMul .i64 a1 a2), 0))) (
 ifB (pEq a2 0) (
 some (0, 8)) (
 ifB (pEq a2 0) (
 none) (
 bindO (
 ifB (pLt (pQuo .i64 a1 a2) (-1000000000)) (
 some true) (
 some (pGt (pQuo .i64 a1 a2) 1000000000))) fun y31 =>
 ifB y31 (
 some (0, 8)) (
 some ((pQuo .i64 a1 a2), 0))))))))))))
def spec_l12Run_done (N : Nat) (a0 : (List (Int × Int × ByteArray × Int × Unit)) × List (ByteArray) × List (Int) × (List (Int) × Int × Int × Unit) × Int × Int × Int × Unit) (a1 : Int × Int × ByteArray × Int × Unit) (a2 : Int) (a3 : Int) : Option (Int × (List (Int × Int × ByteArray × Int × Unit)) × List ByteArray × List Int × (List Int × Int × Int × Unit) × Int × Int × Int × Unit) :=
 ifB (pEq a1.1 2) (
 bindO (spec_l12Run_slot N a0 a1.2.2.1) fun y17 =>
 bindO (idx a0.2.2.1 y17) fun y18 =>
 bindO (idx a0.2.2.1 y17) fun y19 =>
 some (0, (a0.1, (a0.2.1, ((pSet a0.2.2.1 y17 a2), a0.2.2.2))))) (
 ifB (pEq a1.1 5) (
 bindO (spec_l12Run_act N a0 a1.1 a2 a3) fun y20 =>
 some (0, y20)) (
 ifB (pEq a1.1 6) (
 bindO (spec_l12Run_act N a0 a1.1 a2 a3) fun y21 =>
 some (0, y21)) (
 ifB (pEq a1.1 7) (
 bindO (spec_l12Run_act N a0 a1.1 a2 a3) fun y22 =>
 some (0, y22)) (
 ifB (pEq a1.1 8) (
 bindO (spec_l12Run_act N a0 a1.1 a2 a3) fun y23 =>
 some (0, y23)) (
 ifB (pEq a1.1 9) (
 some (0, (a0.1, (a0.2.1, (a0.2.2.1, (a0.2.2.2.1, (a0.2.2.2.2.1, ((pAdd .i64 a0.2.2.2.2.2.1 1), a0.2.2.2.2.2.2)))))))) (
 ifB (pEq a1.1 10) (
 bindO (spec_l11Motion N a1.2.2.1) fun y24 =>
 bindO (spec_BufMove N a0.2.2.2.1 y24 1 0) fun y25 =>
 some (0, (a0.1, (a0.2.1, (a0.2.2.1, (y25, a0.2.2.2.2)))))) (
 ifB (pEq a1.1 11) (
 some (a1.2.1, a0)) (
 ifB (pEq a1.1 12) (
 bindO (spec_l12Run_slot N a0 a1.2.2.1) fun y26 =>
 bindO (idx a0.2.2.1 y26) fun y27 =>
 bindO (idx a0.2.2.1 y26) fun y28 =>
 some (y28, a0)) (
 ifB (pEq a1.1 13) (
 some (a0.2.2.2.1.2.1, a0)) (
 ifB (pEq a1.1 14) (
 some ((pLen a0.2.2.2.1.1), a0)) (
 ifB (pEq a1.1 15) (
 some (a0.2.2.2.1.2.2.1, a0)) (
 ifB (pEq a1.1 16) (
 bindO (
 ifB (pLt a2 0) (
 some true) (
 some (pGe a2 (pLen a0.2.2.2.1.1)))) fun y29 =>
 ifB y29 (
 bindO (spec_l12Run_fail N a0 8) fun y30 =>
 some (0, y30)) (
 bindO (idx a0.2.2.2.1.1 a2) fun y31 =>
 some (y31, a0))) (
 ifB (pEq a1.1 17) (
 ifB (pEq a2 0) (
 some (1, a0)) (
 some (0, a0))) (
 bindO (spec_l12Op N a1.1 a2 a3) fun y32 =>
 ifB (pNe y32.2 0) (
 bindO (spec_l12Run_fail N a0 y32.2) fun y33 =>
 some (y32.1, y33)) (
 some (y32.1, a0))))))))))))))))
def impl_machine_pop (N : Nat) (a0 : ((List (Int) × Int × Int × Unit) × Int × Int × Int × Unit) × List (Int) × (Int × Int × Int × Int × Int × Int × Int × Int × Unit × Unit) × Int × Unit) : Option (Int × ((List Int × Int × Int × Unit) × Int × Int × Int × Unit) × List Int × (Int × Int × Int × Int × Int × Int × Int × Int × Unit × Unit) × Int × Unit) :=
 bindO (idx a0.2.1 (pSub .i64 (pLen a0.2.1) 1)) fun y2 =>
 bindO (idx a0.2.1 (pSub .i64 (pLen a0.2.1) 1)) fun y3 =>
 ifB (pLe 0 0) (
 ifB (pLe 0 (pSub .i64 (pLen a0.2.1) 1)) (
 ifB (pLe (pSub .i64 (pLen a0.2.1) 1) (pLen a0.2.1)) (
 some (y3, (a0.1, ((sub a0.2.1 0 (pSub .i64 (pLen a0.2.1) 1)), a0.2.2)))) (
 none)) (
 none)) (
 none)
def impl_scene_tick (N : Nat) (a0 : (List (Int) × Int × Int × Unit) × Int × Int × Int × Unit) : Option (Bool × (List Int × Int × Int × Unit) × Int × Int × Int × Unit) :=
 ifB (pEq a0.2.1 0) (
 some (false, (a0.1, (a0.2.1, (a0.2.2.1, (6, a0.2.2.2.2)))))) (
 some (true, (a0.1, ((pSub .i64 a0.2.1 1), a0.2.2))))
def impl_machine_push (N : Nat) (a0 : ((List (Int) × Int × Int × Unit) × Int × Int × Int × Unit) × List (Int) × (Int × Int × Int × Int × Int × Int × Int × Int × Unit × Unit) × Int × Unit) (a1 : Int) : Option (((List Int × Int × Int × Unit) × Int × Int × Int × Unit) × List Int × (Int × Int × Int × Int × Int × Int × Int × Int × Unit × Unit) × Int × Unit) :=
 ifB (pFit a0.2.1 [a1]) (
 some (a0.1, ((pApp a0.2.1 [a1]), a0.2.2))) (
 none)
def impl_scene_at (N : Nat) (a0 : (List (Int) × Int × Int × Unit) × Int × Int × Int × Unit) (a1 : Int) : Option (Int × (List Int × Int × Int × Unit) × Int × Int × Int × Unit) :=
 bindO (impl_size_Sint64 N a0.1.1) fun y3 =>
 bindO (impl_within N a1 0 (pSub .i64 y3 1)) fun y4 =>
 ifB (pNot y4) (
 some (0, (a0.1, (a0.2.1, (a0.2.2.1, (8, a0.2.2.2.2)))))) (
 bindO (idx a0.1.1 a1) fun y5 =>
 some (y5, a0))
def impl_one (N : Nat) (a0 : Bool) : Option (Int) :=
 ifB a0 (
 some 1) (
 some 0)
def impl_scene_two (N : Nat) (a0 : (List (Int) × Int × Int × Unit) × Int × Int × Int × Unit) (a1 : Int) (a2 : Int) (a3 : Int) : Option (Int × (List Int × Int × Int × Unit) × Int × Int × Int × Unit) :=
 ifB (pEq a1 18) (
 bindO (
 ifB (pNe a2 0) (
 some true) (
 some (pNe a3 0))) fun y17 =>
 bindO (impl_one N y17) fun y18 =>
 bindO (impl_within N y18 (-1000000000) 1000000000) fun y19 =>
 ifB (pNot y19) (
 some (y18, (a0.1, (a0.2.1, (a0.2.2.1, (8, a0.2.2.2.2)))))) (
 some (y18, a0))) (
 ifB (pEq a1 19) (
 bindO (
 ifB (pNe a2 0) (
 some (pNe a3 0)) (
 some false)) fun y20 =>
 bindO (impl_one N y20) fun y21 =>
 bindO (impl_within N y21 (-1000000000) 1000000000) fun y22 =>
 ifB (pNot y22) (
 some (y21, (a0.1, (a0.2.1, (a0.2.2.1, (8, a0.2.2.2.2)))))) (
 some (y21, a0))) (
 ifB (pEq a1 20) (
 bindO (impl_one N (pLt a2 a3)) fun y23 =>
 bindO (impl_within N y23 (-1000000000) 1000000000) fun y24 =>
 ifB (pNot y24) (
 some (y23, (a0.1, (a0.2.1, (a0.2.2.1, (8, a0.2.2.2.2)))))) (
 some (y23, a0))) (
 ifB (pEq a1 21) (
 bindO (impl_one N (pEq a2 a3)) fun y25 =>
 bindO (impl_within N y25 (-1000000000) 1000000000) fun y26 =>
 ifB (pNot y26) (
 some (y25, (a0.1, (a0.2.1, (a0.2.2.1, (8, a0.2.2.2.2)))))) (
 some (y25, a0))) (
 ifB (pEq a1 22) (
 bindO (impl_one N (pGt a2 a3)) fun y27 =>
 bindO (impl_within N y27 (-1000000000) 1000000000) fun y28 =>
 ifB (pNot y28) (
 some (y27, (a0.1, (a0.2.1, (a0.2.2.1, (8, a0.2.2.2.2)))))) (
 some (y27, a0))) (
 ifB (pEq a1 23) (
 bindO (impl_within N (pAdd .i64 a2 a3) (-1000000000) 1000000000) fun y29 =>
 ifB (pNot y29) (
 some ((pAdd .i64 a2 a3), (a0.1, (a0.2.1, (a0.2.2.1, (8, a0.2.2.2.2)))))) (
 some ((pAdd .i64 a2 a3), a0))) (
 ifB (pEq a1 24) (
 bindO (impl_within N (pSub .i64 a2 a3) (-1000000000) 1000000000) fun y30 =>
 ifB (pNot y30) (
 some ((pSub .i64 a2 a3), (a0.1, (a0.2.1, (a0.2.2.1, (8, a0.2.2.2.2)))))) (
 some ((pSub .i64 a2 a3), a0))) (
 ifB (pEq a1 25) (
 bindO (impl_within N (pMul .i64 a2 a3) (-1000000000) 1000000000) fun y31 =>
 ifB (pNot y31) (
 some ((pMul .i64 a2 a3), (a0.1, (a0.2.1, (a0.2.2.1, (8, a0.2.2.2.2)))))) (
 some ((pMul .i64 a2 a3), a0))) (
 ifB (pEq a1 26) (
 ifB (pEq a3 0) (
 some (0, (a0.1, (a0.2.1, (a0.2.2.1, (8, a0.2.2.2.2)))))) (
 ifB (pEq a3 0) (
 none) (
 bindO (impl_within N (pQuo .i64 a2 a3) (-1000000000) 1000000000) fun y32 =>
 ifB (pNot y32) (
 some ((pQuo .i64 a2 a3), (a0.1, (a0.2.1, (a0.2.2.1, (8, a0.2.2.2.2)))))) (
 some ((pQuo .i64 a2 a3), a0))))) (
 bindO (impl_within N 0 (-1000000000) 1000000000) fun y33 =>
 ifB (pNot y33) (
 some (0, (a0.1, (a0.2.1, (a0.2.2.1, (8, a0.2.2.2.2)))))) (
 some (0, a0)))))))))))
def impl_scene_took (N : Nat) (a0 : (List (Int) × Int × Int × Unit) × Int × Int × Int × Unit) (a1 : (List (Int) × Int × Int × Unit) × List (Int) × Int × Unit) : Option ((List Int × Int × Int × Unit) × Int × Int × Int × Unit) :=
 ifB (pNe a1.2.2.1 0) (
 some (a0.1, (a0.2.1, (a0.2.2.1, (a1.2.2.1, a0.2.2.2.2))))) (
 some (a1.1, a0.2))
def impl_scene_insert (N : Nat) (a0 : (List (Int) × Int × Int × Unit) × Int × Int × Int × Unit) (a1 : Int) : Option ((List Int × Int × Int × Unit) × Int × Int × Int × Unit) :=
 bindO (impl_isPoint N a1) fun y3 =>
 ifB (pNot y3) (
 some (a0.1, (a0.2.1, (a0.2.2.1, (8, a0.2.2.2.2))))) (
 bindO (impl_replace N a0.1 a0.1.2.1 a0.1.2.1 [a1]) fun y4 =>
 bindO (impl_scene_took N a0 y4) fun y5 =>
 some y5)
def impl_scene_delete (N : Nat) (a0 : (List (Int) × Int × Int × Unit) × Int × Int × Int × Unit) (a1 : Int) (a2 : Int) : Option ((List Int × Int × Int × Unit) × Int × Int × Int × Unit) :=
 bindO (impl_replace N a0.1 a1 a2 []) fun y2 =>
 bindO (impl_scene_took N a0 y2) fun y3 =>
 some y3
def impl_scene_goTo (N : Nat) (a0 : (List (Int) × Int × Int × Unit) × Int × Int × Int × Unit) (a1 : Int) : Option ((List Int × Int × Int × Unit) × Int × Int × Int × Unit) :=
 bindO (impl_Buf_isPlace N a0.1 a1) fun y1 =>
 ifB (pNot y1) (
 some (a0.1, (a0.2.1, (a0.2.2.1, (8, a0.2.2.2.2))))) (
 some ((a0.1.1, (a1, a0.1.2.2)), a0.2))
def impl_scene_markAt (N : Nat) (a0 : (List (Int) × Int × Int × Unit) × Int × Int × Int × Unit) (a1 : Int) : Option ((List Int × Int × Int × Unit) × Int × Int × Int × Unit) :=
 bindO (impl_Buf_isPlace N a0.1 a1) fun y1 =>
 ifB (pNot y1) (
 some (a0.1, (a0.2.1, (a0.2.2.1, (8, a0.2.2.2.2))))) (
 some ((a0.1.1, (a0.1.2.1, (a1, a0.1.2.2.2))), a0.2))
end Go.AE.F
end
