/- Functions as they are printed out of the program: plain Lean, nothing is claimed here. -/
import Derived.Test.YtliimhlefbnamaaLRingF1
noncomputable section
namespace Go.AE.F
open Go.AE
def spec_l01Src_l04Ring (N : Nat) (a0 : List (Int) × Int × Int × Int × Unit) : Option ((List (List Int) × Int × Unit) × List Int × Int × Int × Int × Unit) :=
 bindO (spec_l01Src_n N a0 4) fun y59 =>
 bindO (spec_l01Src_one N y59.2 12) fun y60 =>
 ifB y60.1 (
 bindO (spec_l01Src_n N y60.2 3) fun y61 =>
 loopP (spec_l01Src_l04Ring.l5 N) N ((pAdd .i64 9 y61.1), y61.2, ([], (0, ())), ([], (0, ())), ()) (
 fun d =>
 let x68 := d.1;
 let x69 := d.2.1;
 let x70 := d.2.2.1;
 ifB (pGt (pLen x70.1) 0) (
 bindO (spec_l01Src_n N x68 (pLen x70.1)) fun y71 =>
 bindO (spec_l01Src_one N y71.2 20) fun y72 =>
 ifB y72.1 (
 bindO (spec_l01Src_n N y72.2 3) fun y73 =>
 ifB (pEq y73.1 0) (
 bindO (spec_l01Src_n N y73.2 2) fun y74 =>
 bindO (idx [(-1), (pLen x70.1)] y74.1) fun y75 =>
 bindO (idx [(-1), (pLen x70.1)] y74.1) fun y76 =>
 some ((x70.1, (y76, x70.2.2)), y74.2)) (
 ifB (pEq y73.1 1) (
 ifB (pFit x70.1 [[]]) (
 some (((pApp x70.1 [[]]), (y71.1, x70.2.2)), y73.2)) (
 none)) (
 bindO (spec_l01Src_n N y73.2 5) fun y77 =>
 bindO (spec_l01Src_points N y77.2 (pAdd .i64 297 y77.1)) fun y78 =>
 ifB (pFit x70.1 [y78.1]) (
 some (((pApp x70.1 [y78.1]), (y71.1, x70.2.2)), y78.2)) (
 none)))) (
 some ((x70.1, (y71.1, x70.2.2)), y72.2))) (
 bindO (spec_l01Src_one N x68 20) fun y79 =>
 ifB y79.1 (
 bindO (spec_l01Src_n N y79.2 3) fun y80 =>
 ifB (pEq y80.1 0) (
 bindO (spec_l01Src_n N y80.2 2) fun y81 =>
 bindO (idx [(-1), (pLen x70.1)] y81.1) fun y82 =>
 bindO (idx [(-1), (pLen x70.1)] y81.1) fun y83 =>
 some ((x70.1, (y83, x70.2.2)), y81.2)) (
 ifB (pEq y80.1 1) (
 ifB (pFit x70.1 [[]]) (
 some (((pApp x70.1 [[]]), x70.2), y80.2)) (
 none)) (
 bindO (spec_l01Src_n N y80.2 5) fun y84 =>
 bindO (spec_l01Src_points N y84.2 (pAdd .i64 297 y84.1)) fun y85 =>
 ifB (pFit x70.1 [y85.1]) (
 some (((pApp x70.1 [y85.1]), x70.2), y85.2)) (
 none)))) (
 some (x70, y79.2))))) (
 loopP (spec_l01Src_l04Ring.l5 N) N (y59.1, y60.2, ([], (0, ())), ([], (0, ())), ()) (
 fun d =>
 let x92 := d.1;
 let x93 := d.2.1;
 let x94 := d.2.2.1;
 ifB (pGt (pLen x94.1) 0) (
 bindO (spec_l01Src_n N x92 (pLen x94.1)) fun y95 =>
 bindO (spec_l01Src_one N y95.2 20) fun y96 =>
 ifB y96.1 (
 bindO (spec_l01Src_n N y96.2 3) fun y97 =>
 ifB (pEq y97.1 0) (
 bindO (spec_l01Src_n N y97.2 2) fun y98 =>
 bindO (idx [(-1), (pLen x94.1)] y98.1) fun y99 =>
 bindO (idx [(-1), (pLen x94.1)] y98.1) fun y100 =>
 some ((x94.1, (y100, x94.2.2)), y98.2)) (
 ifB (pEq y97.1 1) (
 ifB (pFit x94.1 [[]]) (
 some (((pApp x94.1 [[]]), (y95.1, x94.2.2)), y97.2)) (
 none)) (
 bindO (spec_l01Src_n N y97.2 5) fun y101 =>
 bindO (spec_l01Src_points N y101.2 (pAdd .i64 297 y101.1)) fun y102 =>
 ifB (pFit x94.1 [y102.1]) (
 some (((pApp x94.1 [y102.1]), (y95.1, x94.2.2)), y102.2)) (
 none)))) (
 some ((x94.1, (y95.1, x94.2.2)), y96.2))) (
 bindO (spec_l01Src_one N x92 20) fun y103 =>
 ifB y103.1 (
 bindO (spec_l01Src_n N y103.2 3) fun y104 =>
 ifB (pEq y104.1 0) (
 bindO (spec_l01Src_n N y104.2 2) fun y105 =>
 bindO (idx [(-1), (pLen x94.1)] y105.1) fun y106 =>
 bindO (idx [(-1), (pLen x94.1)] y105.1) fun y107 =>
 some ((x94.1, (y107, x94.2.2)), y105.2)) (
 ifB (pEq y104.1 1) (
 ifB (pFit x94.1 [[]]) (
 some (((pApp x94.1 [[]]), x94.2), y104.2)) (
 none)) (
 bindO (spec_l01Src_n N y104.2 5) fun y108 =>
 bindO (spec_l01Src_points N y108.2 (pAdd .i64 297 y108.1)) fun y109 =>
 ifB (pFit x94.1 [y109.1]) (
 some (((pApp x94.1 [y109.1]), x94.2), y109.2)) (
 none)))) (
 some (x94, y103.2)))))
def spec_RingRight (N : Nat) (a0 : List (List (Int)) × Int × Unit) : Option (Bool) :=
 bindO (spec_l04Items N a0.1 10) fun y5 =>
 bindO (
 ifB y5 (
 some (pGe a0.2.1 0)) (
 some false)) fun y6 =>
 bindO (
 ifB y6 (
 bindO (
 ifB (pLt a0.2.1 (pLen a0.1)) (
 some true) (
 bindO (
 ifB (pEq a0.2.1 0) (
 some (pEq (pLen a0.1) 0)) (
 some false)) fun y9 =>
 some y9)) fun y8 =>
 some y8) (
 some false)) fun y7 =>
 some y7
def impl_RingRight (N : Nat) (a0 : List (List (Int)) × Int × Unit) : Option (Bool) :=
 ifB (pLe (pLen a0.1) 10) (
 bindO (impl_areItems N a0.1) fun y3 =>
 ifB y3 (
 bindO (impl_size_SSint64 N a0.1) fun y4 =>
 bindO (impl_within N a0.2.1 0 (pMax (pSub .i64 y4 1) 0)) fun y5 =>
 some y5) (
 some false)) (
 some false)
def impl_RingTop (N : Nat) (a0 : List (List (Int)) × Int × Unit) : Option (List Int) :=
 bindO (impl_RingRight N a0) fun y4 =>
 bindO (
 ifB (pNot y4) (
 some true) (
 some (pEq (pLen a0.1) 0))) fun y5 =>
 ifB y5 (
 some []) (
 bindO (idx a0.1 a0.2.1) fun y6 =>
 bindO (slices_Clone_Sint64_int64 N y6) fun y7 =>
 some y7)
def spec_l04CopyAll.l3 {R : Type} (N : Nat) (d : List (List Int) × Int × List (List Int) × Unit) (kn : List (List Int) × Int × List (List Int) × Unit → Option R) (kx : List (List Int) × Unit → Option R) : Option R :=
 let x13 := d.1;
 let x14 := d.2.1;
 let x15 := d.2.2.1;
 ifB (pLt x14 (pLen x13)) (
 bindO (idx x13 x14) fun y16 =>
 bindO (spec_l01Copy N y16) fun y17 =>
 ifB (pFit x15 [y17]) (
 kn (x13, (pAdd .i64 x14 1), (pApp x15 [y17]), ())) (
 none)) (
 kx (x15, ()))
def spec_l04CopyAll (N : Nat) (a0 : List (List (Int))) : Option (List (List Int)) :=
 loopP (spec_l04CopyAll.l3 N) N (a0, 0, [], ()) (
 fun d =>
 let x18 := d.1;
 some x18)
def spec_l04Copy (N : Nat) (a0 : List (List (Int)) × Int × Unit) : Option (List (List Int) × Int × Unit) :=
 bindO (spec_l04CopyAll N a0.1) fun y1 =>
 some (y1, (a0.2.1, ()))
def impl_ownRing (N : Nat) (a0 : List (List (Int)) × Int × Unit) : Option (List (List Int) × Int × Unit) :=
 bindO (impl_ownLists N a0.1) fun y1 =>
 some (y1, (a0.2.1, ()))
def impl_RingTurn (N : Nat) (a0 : List (List (Int)) × Int × Unit) : Option (List (List Int) × Int × Unit) :=
 bindO (impl_ownRing N a0) fun y4 =>
 bindO (impl_RingRight N a0) fun y5 =>
 bindO (
 ifB y5 (
 some (pGt (pLen a0.1) 0)) (
 some false)) fun y6 =>
 ifB y6 (
 bindO (impl_size_SSint64 N a0.1) fun y7 =>
 ifB (pEq y7 0) (
 none) (
 some (y4.1, ((pRem (pAdd .i64 a0.2.1 1) y7), y4.2.2)))) (
 some y4)
def spec_RingPush (N : Nat) (a0 : List (List (Int)) × Int × Unit) (a1 : List (Int)) : Option (List (List Int) × Int × Unit) :=
 ifB (pGt (pLen a1) 400) (
 some ([], (0, ()))) (
 bindO (spec_RingRight N a0) fun y7 =>
 bindO (
 ifB (pNot y7) (
 some true) (
 bindO (spec_PointsRight N a1) fun y9 =>
 some (pNot y9))) fun y8 =>
 bindO (
 ifB y8 (
 some true) (
 some (pEq (pLen a1) 0))) fun y10 =>
 ifB y10 (
 bindO (spec_l04Copy N a0) fun y11 =>
 some y11) (
 bindO (spec_l01Copy N a1) fun y12 =>
 bindO (spec_l04CopyAll N a0.1) fun y13 =>
 ifB (pFit [y12] y13) (
 ifB (pGt (pLen (pApp [y12] y13)) 10) (
 ifB (pLe 0 0) (
 ifB (pLe 0 10) (
 ifB (pLe 10 (pLen (pApp [y12] y13))) (
 some ((sub (pApp [y12] y13) 0 10), (0, ()))) (
 none)) (
 none)) (
 none)) (
 some ((pApp [y12] y13), (0, ())))) (
 none)))
def slices_Insert_S_Sint64__Sint64 (N : Nat) (a0 : List (List (Int))) (a1 : Int) (a2 : List (List (Int))) : Option (List (List (Int))) :=
 ifB (pLe 0 a1) (ifB (pLe a1 (pLen a0)) (ifB (pFit a0 a2) (some (pApp (pApp (sub a0 0 a1) a2) (sub a0 a1 (pLen a0)))) none) none) none
def impl_push (N : Nat) (a0 : List (List (Int)) × Int × Unit) (a1 : List (Int)) : Option (List (List Int) × Int × Unit) :=
 bindO (impl_ownLists N a0.1) fun y3 =>
 bindO (slices_Clone_Sint64_int64 N a1) fun y4 =>
 bindO (slices_Insert_S_Sint64__Sint64 N y3 0 [y4]) fun y5 =>
 ifB (pLe 0 0) (
 ifB (pLe 0 (pMin (pLen y5) 10)) (
 ifB (pLe (pMin (pLen y5) 10) (pLen y5)) (
 some ((sub y5 0 (pMin (pLen y5) 10)), (0, ()))) (
 none)) (
 none)) (
 none)
def impl_RingPush (N : Nat) (a0 : List (List (Int)) × Int × Unit) (a1 : List (Int)) : Option (List (List Int) × Int × Unit) :=
 bindO (impl_isMany N (pLen a1)) fun y11 =>
 ifB y11 (
 some ([], (0, ()))) (
 bindO (impl_RingRight N a0) fun y12 =>
 bindO (
 ifB (pNot y12) (
 some true) (
 bindO (impl_isItem N a1) fun y14 =>
 some (pNot y14))) fun y13 =>
 ifB y13 (
 bindO (impl_ownRing N a0) fun y15 =>
 some y15) (
 bindO (impl_push N a0 a1) fun y16 =>
 some y16))
def spec_DrawRingPush (N : Nat) (a0 : List (Int)) : Option ((List (List Int) × Int × Unit) × List Int) :=
 bindO (spec_l01Source N a0) fun y3 =>
 bindO (spec_l01Src_l04Ring N y3) fun y4 =>
 bindO (spec_l01Src_some N y4.2) fun y5 =>
 some (y4.1, y5.1)
def laws_lwLists.l4 {R : Type} (N : Nat) (d : List (List Int) × List (List Int) × Int × Unit) (kn : List (List Int) × List (List Int) × Int × Unit → Option R) (kx : (Unit) ⊕ (Bool × Unit) → Option R) : Option R :=
 let x16 := d.1;
 let x17 := d.2.1;
 let x18 := d.2.2.1;
 ifB (pLt x18 (pLen x16)) (
 bindO (idx x16 x18) fun y19 =>
 bindO (idx x17 x18) fun y20 =>
 bindO (laws_lwSame N y19 y20) fun y21 =>
 ifB (pNot y21) (
 kx (.inr (false, ()))) (
 kn (x16, x17, (pAdd .i64 x18 1), ()))) (
 kx (.inl (())))
def laws_lwLists (N : Nat) (a0 : List (List (Int))) (a1 : List (List (Int))) : Option (Bool) :=
 ifB (pNe (pLen a0) (pLen a1)) (
 some false) (
 loopP (laws_lwLists.l4 N) N (a0, a1, 0, ()) (
 onSum (fun d =>
 some true) (
 fun d =>
 let x22 := d.1;
 some x22)))
def laws_lwRing (N : Nat) (a0 : List (List (Int)) × Int × Unit) (a1 : List (List (Int)) × Int × Unit) : Option (Bool) :=
 bindO (laws_lwLists N a0.1 a1.1) fun y2 =>
 bindO (
 ifB y2 (
 some (pEq a0.2.1 a1.2.1)) (
 some false)) fun y3 =>
 some y3
def laws_FnRing.l14 {R : Type} (N : Nat) (d : Int × (List (List Int) × Int × Unit) × (List (List Int) × Int × Unit) × (List (List Int) × Int × Unit) × Unit) (kn : Int × (List (List Int) × Int × Unit) × (List (List Int) × Int × Unit) × (List (List Int) × Int × Unit) × Unit → Option R) (kx : (List (List Int) × Int × Unit) × (List (List Int) × Int × Unit) × Unit → Option R) : Option R :=
 let x40 := d.1;
 let x41 := d.2.1;
 let x42 := d.2.2.1;
 let x43 := d.2.2.2.1;
 ifB (pLt x40 (pLen x41.1)) (
 bindO (impl_RingTurn N x43) fun y44 =>
 kn ((pAdd .i64 x40 1), x41, x42, y44, ())) (
 kx (x42, x43, ()))
def laws_FnRing (N : Nat) (a0 : List (Int)) : Option (Bool) :=
 ifB (pGt (pLen a0) 1048576) (
 some true) (
 bindO (spec_DrawRingPush N a0) fun y27 =>
 bindO (spec_RingPush N y27.1 y27.2) fun y28 =>
 bindO (laws_lwCopy N y27.2) fun y29 =>
 bindO (impl_RingPush N y27.1 y29) fun y30 =>
 bindO (laws_lwRing N y30 y28) fun y31 =>
 ifB (pNot y31) (
 some false) (
 bindO (spec_RingRight N y27.1) fun y32 =>
 bindO (
 ifB (pNot y32) (
 some true) (
 bindO (spec_PointsRight N y27.2) fun y34 =>
 some (pNot y34))) fun y33 =>
 bindO (
 ifB y33 (
 some true) (
 some (pEq (pLen y27.2) 0))) fun y35 =>
 ifB y35 (
 some true) (
 bindO (impl_RingRight N y30) fun y36 =>
 bindO (
 ifB (pNot y36) (
 some true) (
 bindO (impl_RingTop N y30) fun y38 =>
 bindO (laws_lwSame N y38 y27.2) fun y39 =>
 some (pNot y39))) fun y37 =>
 ifB y37 (
 some false) (
 loopP (laws_FnRing.l14 N) N (0, y28, y30, y30, ()) (
 fun d =>
 let x45 := d.1;
 let x46 := d.2.1;
 bindO (laws_lwRing N x46 x45) fun y47 =>
 some y47)))))
end Go.AE.F
end
