/- Functions as they are printed out of the program: plain Lean, nothing is claimed here. -/
import Derived.Test.YtddhkcmpaalamaaXRingJoinF1
noncomputable section
namespace Go.AE.F
open Go.AE
def slices_IndexFunc_S_Sint64__Sint64__impl_areItems_c1.l2 {R : Type} (N : Nat) (d : List (List Int) × Int × Int × Unit) (kn : List (List Int) × Int × Int × Unit → Option R) (kx : (Unit) ⊕ (Int × Unit) → Option R) : Option R :=
 let x13 := d.1;
 let x14 := d.2.1;
 let x15 := d.2.2.1;
 ifB (pLt x15 x14) (
 bindO (idx x13 x15) fun y16 =>
 bindO (impl_areItems_c1 N y16) fun y17 =>
 ifB y17 (
 kx (.inr (x15, ()))) (
 kn (x13, x14, (pAdd .i64 x15 1), ()))) (
 kx (.inl (())))
def slices_IndexFunc_S_Sint64__Sint64__impl_areItems_c1 (N : Nat) (a0 : List (List (Int))) : Option (Int) :=
 loopP (slices_IndexFunc_S_Sint64__Sint64__impl_areItems_c1.l2 N) N (a0, (pLen a0), 0, ()) (
 onSum (fun d =>
 some (-1)) (
 fun d =>
 let x18 := d.1;
 some x18))
def slices_ContainsFunc_S_Sint64__Sint64__impl_areItems_c1 (N : Nat) (a0 : List (List (Int))) : Option (Bool) :=
 bindO (slices_IndexFunc_S_Sint64__Sint64__impl_areItems_c1 N a0) fun y1 =>
 some (pGe y1 0)
def impl_areItems (N : Nat) (a0 : List (List (Int))) : Option (Bool) :=
 bindO (slices_ContainsFunc_S_Sint64__Sint64__impl_areItems_c1 N a0) fun y1 =>
 some (pNot y1)
def impl_size_SSint64 (N : Nat) (a0 : List (List (Int))) : Option (Int) :=
 some (pLen a0)
def slices_Grow_Sint64_int64 (N : Nat) (a0 : List (Int)) (a1 : Int) : Option (List Int) :=
 ifB (pLt a1 0) (
 none) (
 ifB (pGt (pSub .i64 a1 (pSub .i64 0 (pLen ([] : List Int)))) 0) (
 ifB (pEq 0 0) (
 ifB (pEq 0 0) (
 ifB (pLe 0 (pSub .i64 a1 (pSub .i64 0 (pLen ([] : List Int))))) (
 ifB (pLe (pSub .i64 a1 (pSub .i64 0 (pLen ([] : List Int)))) 68719476736) (
 ifB (pLe 0 0) (
 ifB (pLe 0 (pLen ([] : List Int))) (
 ifB (pLe (pLen ([] : List Int)) (pLen (pRepl (pSub .i64 a1 (pSub .i64 0 (pLen ([] : List Int)))) (0 : Int)))) (
 some (sub (pRepl (pSub .i64 a1 (pSub .i64 0 (pLen ([] : List Int)))) (0 : Int)) 0 (pLen ([] : List Int)))) (
 none)) (
 none)) (
 none)) (
 none)) (
 none)) (
 none)) (
 none)) (
 some []))
def slices_Concat_Sint64_int64.l3 {R : Type} (N : Nat) (d : List (List Int) × Int × List (List Int) × Int × Int × Unit) (kn : List (List Int) × Int × List (List Int) × Int × Int × Unit → Option R) (kx : List (List Int) × Int × Unit → Option R) : Option R :=
 let x28 := d.1;
 let x29 := d.2.1;
 let x30 := d.2.2.1;
 let x31 := d.2.2.2.1;
 let x32 := d.2.2.2.2.1;
 ifB (pLt x32 x31) (
 bindO (idx x30 x32) fun y33 =>
 ifB (pLt (pAdd .i64 x29 (pLen y33)) 0) (
 none) (
 kn (x28, (pAdd .i64 x29 (pLen y33)), x30, x31, (pAdd .i64 x32 1), ()))) (
 kx (x28, x29, ()))
def slices_Concat_Sint64_int64.l11 {R : Type} (N : Nat) (d : List (List Int) × Int × Int × List Int × Unit) (kn : List (List Int) × Int × Int × List Int × Unit → Option R) (kx : List Int × Unit → Option R) : Option R :=
 let x37 := d.1;
 let x38 := d.2.1;
 let x39 := d.2.2.1;
 let x40 := d.2.2.2.1;
 ifB (pLt x39 x38) (
 bindO (idx x37 x39) fun y41 =>
 ifB (pFit x40 y41) (
 kn (x37, x38, (pAdd .i64 x39 1), (pApp x40 y41), ())) (
 none)) (
 kx (x40, ()))
def slices_Concat_Sint64_int64 (N : Nat) (a0 : List (List (Int))) : Option (List Int) :=
 loopP (slices_Concat_Sint64_int64.l3 N) N (a0, 0, a0, (pLen a0), 0, ()) (
 fun d =>
 let x34 := d.1;
 let x35 := d.2.1;
 bindO (slices_Grow_Sint64_int64 N [] x35) fun y36 =>
 loopP (slices_Concat_Sint64_int64.l11 N) N (x34, (pLen x34), 0, y36, ()) (
 fun d =>
 let x42 := d.1;
 some x42))
def spec_RingRight (N : Nat) (a0 : List (List (Int)) × Int × Unit) : Option (Bool) :=
 bindO (spec_l04Items N a0.1 10) fun y5 =>
 bindO (
 ifB y5 (
 some (pGe a0.2.1 0)) (
 some false)) fun y6 =>
 bindO (
 ifB y6 (
 bindO (
 ifB (pLt a0.2.1 (pLen a0.1)) (
 some true) (
 bindO (
 ifB (pEq a0.2.1 0) (
 some (pEq (pLen a0.1) 0)) (
 some false)) fun y9 =>
 some y9)) fun y8 =>
 some y8) (
 some false)) fun y7 =>
 some y7
def impl_RingRight (N : Nat) (a0 : List (List (Int)) × Int × Unit) : Option (Bool) :=
 ifB (pLe (pLen a0.1) 10) (
 bindO (impl_areItems N a0.1) fun y3 =>
 ifB y3 (
 bindO (impl_size_SSint64 N a0.1) fun y4 =>
 bindO (impl_within N a0.2.1 0 (pMax (pSub .i64 y4 1) 0)) fun y5 =>
 some y5) (
 some false)) (
 some false)
def spec_l04CopyAll.l3 {R : Type} (N : Nat) (d : List (List Int) × Int × List (List Int) × Unit) (kn : List (List Int) × Int × List (List Int) × Unit → Option R) (kx : List (List Int) × Unit → Option R) : Option R :=
 let x13 := d.1;
 let x14 := d.2.1;
 let x15 := d.2.2.1;
 ifB (pLt x14 (pLen x13)) (
 bindO (idx x13 x14) fun y16 =>
 bindO (spec_l01Copy N y16) fun y17 =>
 ifB (pFit x15 [y17]) (
 kn (x13, (pAdd .i64 x14 1), (pApp x15 [y17]), ())) (
 none)) (
 kx (x15, ()))
def spec_l04CopyAll (N : Nat) (a0 : List (List (Int))) : Option (List (List Int)) :=
 loopP (spec_l04CopyAll.l3 N) N (a0, 0, [], ()) (
 fun d =>
 let x18 := d.1;
 some x18)
def spec_l04Copy (N : Nat) (a0 : List (List (Int)) × Int × Unit) : Option (List (List Int) × Int × Unit) :=
 bindO (spec_l04CopyAll N a0.1) fun y1 =>
 some (y1, (a0.2.1, ()))
def impl_ownRing (N : Nat) (a0 : List (List (Int)) × Int × Unit) : Option (List (List Int) × Int × Unit) :=
 bindO (impl_ownLists N a0.1) fun y1 =>
 some (y1, (a0.2.1, ()))
def laws_szRing (N : Nat) (a0 : List (List (Int)) × Int × Unit) (a1 : Int) : Option (Int) :=
 bindO (laws_szInt64SS N a0.1 a1) fun y1 =>
 ifB (pLt y1 0) (
 some (-1)) (
 some y1)
def laws_toRing (N : Nat) (a0 : List (List (Int)) × Int × Unit) : Option (List (List Int) × Int × Unit) :=
 bindO (laws_toInt64SS N a0.1) fun y1 =>
 some (y1, (a0.2.1, ()))
def spec_RingPush (N : Nat) (a0 : List (List (Int)) × Int × Unit) (a1 : List (Int)) : Option (List (List Int) × Int × Unit) :=
 ifB (pGt (pLen a1) 400) (
 some ([], (0, ()))) (
 bindO (spec_RingRight N a0) fun y7 =>
 bindO (
 ifB (pNot y7) (
 some true) (
 bindO (spec_PointsRight N a1) fun y9 =>
 some (pNot y9))) fun y8 =>
 bindO (
 ifB y8 (
 some true) (
 some (pEq (pLen a1) 0))) fun y10 =>
 ifB y10 (
 bindO (spec_l04Copy N a0) fun y11 =>
 some y11) (
 bindO (spec_l01Copy N a1) fun y12 =>
 bindO (spec_l04CopyAll N a0.1) fun y13 =>
 ifB (pFit [y12] y13) (
 ifB (pGt (pLen (pApp [y12] y13)) 10) (
 ifB (pLe 0 0) (
 ifB (pLe 0 10) (
 ifB (pLe 10 (pLen (pApp [y12] y13))) (
 some ((sub (pApp [y12] y13) 0 10), (0, ()))) (
 none)) (
 none)) (
 none)) (
 some ((pApp [y12] y13), (0, ())))) (
 none)))
def slices_Insert_S_Sint64__Sint64 (N : Nat) (a0 : List (List (Int))) (a1 : Int) (a2 : List (List (Int))) : Option (List (List (Int))) :=
 ifB (pLe 0 a1) (ifB (pLe a1 (pLen a0)) (ifB (pFit a0 a2) (some (pApp (pApp (sub a0 0 a1) a2) (sub a0 a1 (pLen a0)))) none) none) none
def impl_push (N : Nat) (a0 : List (List (Int)) × Int × Unit) (a1 : List (Int)) : Option (List (List Int) × Int × Unit) :=
 bindO (impl_ownLists N a0.1) fun y3 =>
 bindO (slices_Clone_Sint64_int64 N a1) fun y4 =>
 bindO (slices_Insert_S_Sint64__Sint64 N y3 0 [y4]) fun y5 =>
 ifB (pLe 0 0) (
 ifB (pLe 0 (pMin (pLen y5) 10)) (
 ifB (pLe (pMin (pLen y5) 10) (pLen y5)) (
 some ((sub y5 0 (pMin (pLen y5) 10)), (0, ()))) (
 none)) (
 none)) (
 none)
def spec_RingJoin (N : Nat) (a0 : List (List (Int)) × Int × Unit) (a1 : List (Int)) (a2 : Bool) : Option (List (List Int) × Int × Unit) :=
 ifB (pGt (pLen a1) 400) (
 some ([], (0, ()))) (
 bindO (spec_RingRight N a0) fun y17 =>
 bindO (
 ifB (pNot y17) (
 some true) (
 bindO (spec_PointsRight N a1) fun y19 =>
 some (pNot y19))) fun y18 =>
 bindO (
 ifB y18 (
 some true) (
 some (pEq (pLen a1) 0))) fun y20 =>
 ifB y20 (
 bindO (spec_l04Copy N a0) fun y21 =>
 some y21) (
 bindO (
 ifB (pEq (pLen a0.1) 0) (
 some true) (
 bindO (idx a0.1 0) fun y23 =>
 some (pGt (pAdd .i64 (pLen y23) (pLen a1)) 300))) fun y22 =>
 ifB y22 (
 bindO (spec_RingPush N a0 a1) fun y24 =>
 some y24) (
 bindO (spec_l04Copy N a0) fun y25 =>
 ifB a2 (
 bindO (idx a0.1 0) fun y26 =>
 bindO (spec_l01Copy N a1) fun y27 =>
 ifB (pFit y27 y26) (
 bindO (idx y25.1 0) fun y28 =>
 bindO (idx y25.1 0) fun y29 =>
 some ((pSet y25.1 0 (pApp y27 y26)), (0, y25.2.2))) (
 none)) (
 bindO (idx a0.1 0) fun y30 =>
 bindO (spec_l01Copy N y30) fun y31 =>
 ifB (pFit y31 a1) (
 bindO (idx y25.1 0) fun y32 =>
 bindO (idx y25.1 0) fun y33 =>
 some ((pSet y25.1 0 (pApp y31 a1)), (0, y25.2.2))) (
 none)))))
def impl_RingJoin (N : Nat) (a0 : List (List (Int)) × Int × Unit) (a1 : List (Int)) (a2 : Bool) : Option (List (List Int) × Int × Unit) :=
 bindO (impl_isMany N (pLen a1)) fun y25 =>
 ifB y25 (
 some ([], (0, ()))) (
 bindO (impl_RingRight N a0) fun y26 =>
 bindO (
 ifB (pNot y26) (
 some true) (
 bindO (impl_isItem N a1) fun y28 =>
 some (pNot y28))) fun y27 =>
 ifB y27 (
 bindO (impl_ownRing N a0) fun y29 =>
 some y29) (
 bindO (
 ifB (pEq (pLen a0.1) 0) (
 some true) (
 bindO (idx a0.1 0) fun y31 =>
 some (pGt (pAdd .i64 (pLen y31) (pLen a1)) 300))) fun y30 =>
 ifB y30 (
 bindO (impl_push N a0 a1) fun y32 =>
 some y32) (
 bindO (impl_ownRing N a0) fun y33 =>
 ifB a2 (
 bindO (idx a0.1 0) fun y34 =>
 bindO (slices_Concat_Sint64_int64 N [a1, y34]) fun y35 =>
 bindO (idx y33.1 0) fun y36 =>
 bindO (idx y33.1 0) fun y37 =>
 some ((pSet y33.1 0 y35), (0, y33.2.2))) (
 bindO (idx a0.1 0) fun y38 =>
 bindO (slices_Concat_Sint64_int64 N [y38, a1]) fun y39 =>
 bindO (idx y33.1 0) fun y40 =>
 bindO (idx y33.1 0) fun y41 =>
 some ((pSet y33.1 0 y39), (0, y33.2.2))))))
def laws_FnExactRingJoin (N : Nat) (a0 : List (List (Int)) × Int × Unit) (a1 : List (Int)) (a2 : Bool) : Option (Bool) :=
 ifB (pGt (pLen a1) 1048576) (
 some true) (
 bindO (laws_szRing N a0 1048576) fun y23 =>
 ifB (pLt y23 0) (
 some true) (
 bindO (laws_toRing N a0) fun y24 =>
 bindO (laws_toInt64S N a1) fun y25 =>
 bindO (spec_RingJoin N y24 y25 a2) fun y26 =>
 bindO (laws_toRing N a0) fun y27 =>
 bindO (laws_toInt64S N a1) fun y28 =>
 bindO (impl_RingJoin N y27 y28 a2) fun y29 =>
 bindO (laws_eqRing N y29 y26) fun y30 =>
 ifB (pNot y30) (
 some false) (
 bindO (laws_toRing N a0) fun y31 =>
 bindO (laws_eqRing N y27 y31) fun y32 =>
 ifB (pNot y32) (
 some false) (
 bindO (laws_toInt64S N a1) fun y33 =>
 bindO (laws_eqInt64S N y28 y33) fun y34 =>
 ifB (pNot y34) (
 some false) (
 bindO (laws_markRing N y27 1) fun y35 =>
 bindO (laws_markInt64S N y28 y35.1) fun y36 =>
 bindO (
 ifB (pLt y36.1 0) (
 some true) (
 bindO (laws_eqRing N y29 y26) fun y38 =>
 some (pNot y38))) fun y37 =>
 ifB y37 (
 some false) (
 bindO (laws_markRing N y29 1) fun y39 =>
 bindO (laws_heldRing N y39.2 1) fun y40 =>
 ifB (pLt y40 0) (
 some false) (
 ifB (pNe y40 y39.1) (
 some false) (
 bindO (laws_toRing N a0) fun y41 =>
 bindO (laws_toInt64S N a1) fun y42 =>
 bindO (impl_RingJoin N y41 y42 a2) fun y43 =>
 bindO (laws_eqRing N y43 y26) fun y44 =>
 ifB (pNot y44) (
 some false) (
 bindO (laws_heldRing N y39.2 1) fun y45 =>
 ifB (pLt y45 0) (
 some false) (
 ifB (pNe y45 y39.1) (
 some false) (
 some true)))))))))))
end Go.AE.F
end
