/- Functions as they are printed out of the program: plain Lean, nothing is claimed here. -/
import Derived.Test.YtliimhlefbnamaaA5
noncomputable section
namespace Go.AE.F
open Go.AE
def spec_l01Point (N : Nat) (a0 : Int) : Option (Bool) :=
 bindO (
 ifB (pGe a0 0) (
 some (pLe a0 1114111)) (
 some false)) fun y3 =>
 bindO (
 ifB y3 (
 bindO (
 ifB (pGe a0 55296) (
 some (pLe a0 57343)) (
 some false)) fun y5 =>
 some (pNot y5)) (
 some false)) fun y4 =>
 some y4
def impl_within (N : Nat) (a0 : Int) (a1 : Int) (a2 : Int) : Option (Bool) :=
 bindO (
 ifB (pLe a1 a0) (
 some (pLe a0 a2)) (
 some false)) fun y1 =>
 some y1
def impl_isPoint (N : Nat) (a0 : Int) : Option (Bool) :=
 bindO (impl_within N a0 0 1114111) fun y3 =>
 bindO (
 ifB y3 (
 bindO (impl_within N a0 55296 57343) fun y5 =>
 some (pNot y5)) (
 some false)) fun y4 =>
 some y4
def spec_PointsRight.l4 {R : Type} (N : Nat) (d : List Int × Int × Unit) (kn : List Int × Int × Unit → Option R) (kx : (Unit) ⊕ (Bool × Unit) → Option R) : Option R :=
 let x31 := d.1;
 let x32 := d.2.1;
 ifB (pLt x32 (pLen x31)) (
 bindO (idx x31 x32) fun y35 =>
 bindO (spec_l01Point N y35) fun y36 =>
 ifB (pNot y36) (
 kx (.inr (false, ()))) (
 kn (x31, (pAdd .i64 x32 1), ()))) (
 kx (.inl (())))
def spec_PointsRight (N : Nat) (a0 : List (Int)) : Option (Bool) :=
 ifB (pGt (pLen a0) 300) (
 some false) (
 loopP (spec_PointsRight.l4 N) N (a0, 0, ()) (
 onSum (fun d =>
 some true) (
 fun d =>
 let x37 := d.1;
 some x37)))
def spec_l01Copy (N : Nat) (a0 : List (Int)) : Option (List Int) :=
 ifB (pFit [] a0) (
 some (pApp [] a0)) (
 none)
def impl_PointsRight_c1 (N : Nat) (a0 : Int) : Option (Bool) :=
 bindO (impl_isPoint N a0) fun y1 =>
 some (pNot y1)
def slices_IndexFunc_Sint64_int64__impl_PointsRight_c1.l2 {R : Type} (N : Nat) (d : List Int × Int × Int × Unit) (kn : List Int × Int × Int × Unit → Option R) (kx : (Unit) ⊕ (Int × Unit) → Option R) : Option R :=
 let x36 := d.1;
 let x37 := d.2.1;
 let x38 := d.2.2.1;
 ifB (pLt x38 x37) (
 bindO (idx x36 x38) fun y41 =>
 bindO (impl_PointsRight_c1 N y41) fun y42 =>
 ifB y42 (
 kx (.inr (x38, ()))) (
 kn (x36, x37, (pAdd .i64 x38 1), ()))) (
 kx (.inl (())))
def slices_IndexFunc_Sint64_int64__impl_PointsRight_c1 (N : Nat) (a0 : List (Int)) : Option (Int) :=
 loopP (slices_IndexFunc_Sint64_int64__impl_PointsRight_c1.l2 N) N (a0, (pLen a0), 0, ()) (
 onSum (fun d =>
 some (-1)) (
 fun d =>
 let x43 := d.1;
 some x43))
def slices_ContainsFunc_Sint64_int64__impl_PointsRight_c1 (N : Nat) (a0 : List (Int)) : Option (Bool) :=
 bindO (slices_IndexFunc_Sint64_int64__impl_PointsRight_c1 N a0) fun y1 =>
 some (pGe y1 0)
def impl_PointsRight (N : Nat) (a0 : List (Int)) : Option (Bool) :=
 bindO (
 ifB (pLe (pLen a0) 300) (
 bindO (slices_ContainsFunc_Sint64_int64__impl_PointsRight_c1 N a0) fun y3 =>
 some (pNot y3)) (
 some false)) fun y2 =>
 some y2
def impl_isMany (N : Nat) (a0 : Int) : Option (Bool) :=
 some (pGt a0 400)
def slices_Clone_Sint64_int64.g {R : Type} (N : Nat) (a0 : List (Int)) (k : List Int → Option R) : Option R :=
 ifB (pEq (pLen a0) 0) (
 same (
 k []) (
 ifB (pFit [] a0) (
 k (pApp [] a0)) (
 none))) (
 ifB (pFit [] a0) (
 k (pApp [] a0)) (
 none))
def slices_Clone_Sint64_int64 (N : Nat) (a0 : List (Int)) : Option (List Int) := slices_Clone_Sint64_int64.g N a0 some
def spec_l01Source.l3 {R : Type} (N : Nat) (d : List Int × Int × (List Int × Int × Int × Int × Unit) × Unit) (kn : List Int × Int × (List Int × Int × Int × Int × Unit) × Unit → Option R) (kx : List Int × (List Int × Int × Int × Int × Unit) × Unit → Option R) : Option R :=
 let x13 := d.1;
 let x14 := d.2.1;
 let x15 := d.2.2.1;
 bindO (
 ifB (pLt x14 (pLen x13)) (
 some (pLt x14 64)) (
 some false)) fun y16 =>
 ifB y16 (
 bindO (idx x13 x14) fun y17 =>
 kn (x13, (pAdd .i64 x14 1), (x15.1, (x15.2.1, ((pMul .u64 (pXor .u64 x15.2.2.1 (pConv .u64 y17)) 1099511628211), x15.2.2.2))), ())) (
 kx (x13, x15, ()))
def spec_l01Source (N : Nat) (a0 : List (Int)) : Option (List Int × Int × Int × Int × Unit) :=
 loopP (spec_l01Source.l3 N) N (a0, 0, (a0, (0, (88172645463325252, (0, ())))), ()) (
 fun d =>
 let x18 := d.1;
 let x19 := d.2.1;
 ifB (pEq 20 0) (
 none) (
 ifB (pGt (pQuo .i64 (pLen x18) 20) 12) (
 some (x19.1, (x19.2.1, (x19.2.2.1, (12, x19.2.2.2.2))))) (
 some (x19.1, (x19.2.1, (x19.2.2.1, ((pQuo .i64 (pLen x18) 20), x19.2.2.2.2)))))))
def spec_l01Src_n (N : Nat) (a0 : List (Int) × Int × Int × Int × Unit) (a1 : Int) : Option (Int × List Int × Int × Int × Int × Unit) :=
 ifB (pLe a1 1) (
 some (0, a0)) (
 ifB (pLt a0.2.1 (pLen a0.1)) (
 bindO (idx a0.1 a0.2.1) fun y1 =>
 ifB (pLt 13 0) (
 none) (
 ifB (pLt 7 0) (
 none) (
 ifB (pLt 17 0) (
 none) (
 ifB (pLt 20 0) (
 none) (
 ifB (pEq (pConv .u64 a1) 0) (
 none) (
 some ((pConv .i64 (pRem (pAdd .u64 (pConv .u64 y1) (pShr .u64 (pXor .u64 (pXor .u64 (pXor .u64 a0.2.2.1 (pShl .u64 a0.2.2.1 13)) (pShr .u64 (pXor .u64 a0.2.2.1 (pShl .u64 a0.2.2.1 13)) 7)) (pShl .u64 (pXor .u64 (pXor .u64 a0.2.2.1 (pShl .u64 a0.2.2.1 13)) (pShr .u64 (pXor .u64 a0.2.2.1 (pShl .u64 a0.2.2.1 13)) 7)) 17)) 20)) (pConv .u64 a1))), (a0.1, ((pAdd .i64 a0.2.1 1), ((pXor .u64 (pXor .u64 (pXor .u64 a0.2.2.1 (pShl .u64 a0.2.2.1 13)) (pShr .u64 (pXor .u64 a0.2.2.1 (pShl .u64 a0.2.2.1 13)) 7)) (pShl .u64 (pXor .u64 (pXor .u64 a0.2.2.1 (pShl .u64 a0.2.2.1 13)) (pShr .u64 (pXor .u64 a0.2.2.1 (pShl .u64 a0.2.2.1 13)) 7)) 17)), a0.2.2.2)))))))))) (
 ifB (pLt 13 0) (
 none) (
 ifB (pLt 7 0) (
 none) (
 ifB (pLt 17 0) (
 none) (
 ifB (pLt 20 0) (
 none) (
 ifB (pEq (pConv .u64 a1) 0) (
 none) (
 some ((pConv .i64 (pRem (pAdd .u64 0 (pShr .u64 (pXor .u64 (pXor .u64 (pXor .u64 a0.2.2.1 (pShl .u64 a0.2.2.1 13)) (pShr .u64 (pXor .u64 a0.2.2.1 (pShl .u64 a0.2.2.1 13)) 7)) (pShl .u64 (pXor .u64 (pXor .u64 a0.2.2.1 (pShl .u64 a0.2.2.1 13)) (pShr .u64 (pXor .u64 a0.2.2.1 (pShl .u64 a0.2.2.1 13)) 7)) 17)) 20)) (pConv .u64 a1))), (a0.1, (a0.2.1, ((pXor .u64 (pXor .u64 (pXor .u64 a0.2.2.1 (pShl .u64 a0.2.2.1 13)) (pShr .u64 (pXor .u64 a0.2.2.1 (pShl .u64 a0.2.2.1 13)) 7)) (pShl .u64 (pXor .u64 (pXor .u64 a0.2.2.1 (pShl .u64 a0.2.2.1 13)) (pShr .u64 (pXor .u64 a0.2.2.1 (pShl .u64 a0.2.2.1 13)) 7)) 17)), a0.2.2.2)))))))))))
def spec_l01Src_one (N : Nat) (a0 : List (Int) × Int × Int × Int × Unit) (a1 : Int) : Option (Bool × List Int × Int × Int × Int × Unit) :=
 bindO (spec_l01Src_n N a0 a1) fun y1 =>
 some ((pEq y1.1 0), y1.2)
def laws_lwCopy (N : Nat) (a0 : List (Int)) : Option (List Int) :=
 ifB (pFit [] a0) (
 some (pApp [] a0)) (
 none)
def laws_lwSame.l4 {R : Type} (N : Nat) (d : List Int × List Int × Int × Unit) (kn : List Int × List Int × Int × Unit → Option R) (kx : (Unit) ⊕ (Bool × Unit) → Option R) : Option R :=
 let x13 := d.1;
 let x14 := d.2.1;
 let x15 := d.2.2.1;
 ifB (pLt x15 (pLen x13)) (
 bindO (idx x13 x15) fun y16 =>
 bindO (idx x14 x15) fun y17 =>
 ifB (pNe y16 y17) (
 kx (.inr (false, ()))) (
 kn (x13, x14, (pAdd .i64 x15 1), ()))) (
 kx (.inl (())))
def laws_lwSame (N : Nat) (a0 : List (Int)) (a1 : List (Int)) : Option (Bool) :=
 ifB (pNe (pLen a0) (pLen a1)) (
 some false) (
 loopP (laws_lwSame.l4 N) N (a0, a1, 0, ()) (
 onSum (fun d =>
 some true) (
 fun d =>
 let x18 := d.1;
 some x18)))
def spec_l01Src_point (N : Nat) (a0 : List (Int) × Int × Int × Int × Unit) : Option (Int × List Int × Int × Int × Int × Unit) :=
 bindO (spec_l01Src_n N a0 14) fun y15 =>
 ifB (pEq y15.1 0) (
 some (32, y15.2)) (
 ifB (pEq y15.1 1) (
 some (10, y15.2)) (
 ifB (pEq y15.1 2) (
 bindO (spec_l01Src_n N y15.2 5) fun y16 =>
 bindO (idx ([0, 9, 27, 31, 127] : List Int) y16.1) fun y17 =>
 bindO (idx ([0, 9, 27, 31, 127] : List Int) y16.1) fun y18 =>
 some (y18, y16.2)) (
 ifB (pEq y15.1 3) (
 bindO (spec_l01Src_n N y15.2 20) fun y19 =>
 bindO (idx ([768, 879, 880, 4352, 4447, 4448, 11903, 11904, 42191, 42192, 44032, 55203, 63744, 64255, 65281, 65376, 65377, 127744, 129791, 129792] : List Int) y19.1) fun y20 =>
 bindO (idx ([768, 879, 880, 4352, 4447, 4448, 11903, 11904, 42191, 42192, 44032, 55203, 63744, 64255, 65281, 65376, 65377, 127744, 129791, 129792] : List Int) y19.1) fun y21 =>
 some (y21, y19.2)) (
 ifB (pEq y15.1 4) (
 bindO (spec_l01Src_n N y15.2 8) fun y22 =>
 bindO (idx ([233, 960, 8364, 65533, 1114111, 65535, 55295, 57344] : List Int) y22.1) fun y23 =>
 bindO (idx ([233, 960, 8364, 65533, 1114111, 65535, 55295, 57344] : List Int) y22.1) fun y24 =>
 some (y24, y22.2)) (
 ifB (pEq y15.1 5) (
 bindO (spec_l01Src_n N y15.2 5) fun y25 =>
 bindO (idx ([46, 44, 45, 40, 36] : List Int) y25.1) fun y26 =>
 bindO (idx ([46, 44, 45, 40, 36] : List Int) y25.1) fun y27 =>
 some (y27, y25.2)) (
 ifB (pEq y15.1 6) (
 bindO (spec_l01Src_n N y15.2 10) fun y28 =>
 some ((pAdd .i64 48 y28.1), y28.2)) (
 bindO (spec_l01Src_n N y15.2 6) fun y29 =>
 some ((pAdd .i64 97 y29.1), y29.2))))))))
def spec_l01Src_points.l2 {R : Type} (N : Nat) (d : Int × (List Int × Int × Int × Int × Unit) × List Int × Unit) (kn : Int × (List Int × Int × Int × Int × Unit) × List Int × Unit → Option R) (kx : (List Int × Int × Int × Int × Unit) × List Int × Unit → Option R) : Option R :=
 let x13 := d.1;
 let x14 := d.2.1;
 let x15 := d.2.2.1;
 ifB (pGt x13 0) (
 bindO (spec_l01Src_point N x14) fun y16 =>
 ifB (pFit x15 [y16.1]) (
 kn ((pSub .i64 x13 1), y16.2, (pApp x15 [y16.1]), ())) (
 none)) (
 kx (x14, x15, ()))
def spec_l01Src_points (N : Nat) (a0 : List (Int) × Int × Int × Int × Unit) (a1 : Int) : Option (List Int × List Int × Int × Int × Int × Unit) :=
 loopP (spec_l01Src_points.l2 N) N (a1, a0, [], ()) (
 fun d =>
 let x17 := d.1;
 let x18 := d.2.1;
 some (x18, x17))
def spec_l01Src_some (N : Nat) (a0 : List (Int) × Int × Int × Int × Unit) : Option (List Int × List Int × Int × Int × Int × Unit) :=
 bindO (spec_l01Src_n N a0 (pAdd .i64 12 a0.2.2.2.1)) fun y13 =>
 bindO (spec_l01Src_points N y13.2 y13.1) fun y14 =>
 bindO (spec_l01Src_one N y14.2 50) fun y15 =>
 ifB y15.1 (
 bindO (spec_l01Src_n N y15.2 3) fun y16 =>
 bindO (spec_l01Src_points N y16.2 (pAdd .i64 299 y16.1)) fun y17 =>
 bindO (spec_l01Src_one N y17.2 20) fun y18 =>
 ifB y18.1 (
 bindO (spec_l01Src_n N y18.2 5) fun y19 =>
 bindO (idx ([(-1), 55296, 57343, 1114112, 1099511627776] : List Int) y19.1) fun y20 =>
 bindO (idx ([(-1), 55296, 57343, 1114112, 1099511627776] : List Int) y19.1) fun y21 =>
 ifB (pFit y17.1 [y21]) (
 some ((pApp y17.1 [y21]), y19.2)) (
 none)) (
 some (y17.1, y18.2))) (
 bindO (spec_l01Src_one N y15.2 20) fun y22 =>
 ifB y22.1 (
 bindO (spec_l01Src_n N y22.2 5) fun y23 =>
 bindO (idx ([(-1), 55296, 57343, 1114112, 1099511627776] : List Int) y23.1) fun y24 =>
 bindO (idx ([(-1), 55296, 57343, 1114112, 1099511627776] : List Int) y23.1) fun y25 =>
 ifB (pFit y14.1 [y25]) (
 some ((pApp y14.1 [y25]), y23.2)) (
 none)) (
 some (y14.1, y22.2)))
def spec_l04Items.l4 {R : Type} (N : Nat) (d : List (List Int) × Int × Unit) (kn : List (List Int) × Int × Unit → Option R) (kx : (Unit) ⊕ (Bool × Unit) → Option R) : Option R :=
 let x17 := d.1;
 let x18 := d.2.1;
 ifB (pLt x18 (pLen x17)) (
 bindO (idx x17 x18) fun y19 =>
 bindO (
 ifB (pEq (pLen y19) 0) (
 some true) (
 bindO (idx x17 x18) fun y21 =>
 bindO (spec_PointsRight N y21) fun y22 =>
 some (pNot y22))) fun y20 =>
 ifB y20 (
 kx (.inr (false, ()))) (
 kn (x17, (pAdd .i64 x18 1), ()))) (
 kx (.inl (())))
def spec_l04Items (N : Nat) (a0 : List (List (Int))) (a1 : Int) : Option (Bool) :=
 ifB (pGt (pLen a0) a1) (
 some false) (
 loopP (spec_l04Items.l4 N) N (a0, 0, ()) (
 onSum (fun d =>
 some true) (
 fun d =>
 let x23 := d.1;
 some x23)))
def impl_ownLists.l3 {R : Type} (N : Nat) (d : List (List Int) × Int × Int × List (List Int) × Unit) (kn : List (List Int) × Int × Int × List (List Int) × Unit → Option R) (kx : List (List Int) × Unit → Option R) : Option R :=
 let x15 := d.1;
 let x16 := d.2.1;
 let x17 := d.2.2.1;
 let x18 := d.2.2.2.1;
 ifB (pLt x17 x16) (
 bindO (idx x15 x17) fun y19 =>
 bindO (slices_Clone_Sint64_int64 N y19) fun y20 =>
 ifB (pFit x18 [y20]) (
 kn (x15, x16, (pAdd .i64 x17 1), (pApp x18 [y20]), ())) (
 none)) (
 kx (x18, ()))
def impl_ownLists (N : Nat) (a0 : List (List (Int))) : Option (List (List Int)) :=
 loopP (impl_ownLists.l3 N) N (a0, (pLen a0), 0, [], ()) (
 fun d =>
 let x21 := d.1;
 some x21)
def impl_isItem (N : Nat) (a0 : List (Int)) : Option (Bool) :=
 bindO (
 ifB (pGt (pLen a0) 0) (
 bindO (impl_PointsRight N a0) fun y3 =>
 some y3) (
 some false)) fun y2 =>
 some y2
def impl_areItems_c1 (N : Nat) (a0 : List (Int)) : Option (Bool) :=
 bindO (impl_isItem N a0) fun y1 =>
 some (pNot y1)
def slices_IndexFunc_S_Sint64__Sint64__impl_areItems_c1.l2 {R : Type} (N : Nat) (d : List (List Int) × Int × Int × Unit) (kn : List (List Int) × Int × Int × Unit → Option R) (kx : (Unit) ⊕ (Int × Unit) → Option R) : Option R :=
 let x13 := d.1;
 let x14 := d.2.1;
 let x15 := d.2.2.1;
 ifB (pLt x15 x14) (
 bindO (idx x13 x15) fun y16 =>
 bindO (impl_areItems_c1 N y16) fun y17 =>
 ifB y17 (
 kx (.inr (x15, ()))) (
 kn (x13, x14, (pAdd .i64 x15 1), ()))) (
 kx (.inl (())))
def slices_IndexFunc_S_Sint64__Sint64__impl_areItems_c1 (N : Nat) (a0 : List (List (Int))) : Option (Int) :=
 loopP (slices_IndexFunc_S_Sint64__Sint64__impl_areItems_c1.l2 N) N (a0, (pLen a0), 0, ()) (
 onSum (fun d =>
 some (-1)) (
 fun d =>
 let x18 := d.1;
 some x18))
def slices_ContainsFunc_S_Sint64__Sint64__impl_areItems_c1 (N : Nat) (a0 : List (List (Int))) : Option (Bool) :=
 bindO (slices_IndexFunc_S_Sint64__Sint64__impl_areItems_c1 N a0) fun y1 =>
 some (pGe y1 0)
def impl_areItems (N : Nat) (a0 : List (List (Int))) : Option (Bool) :=
 bindO (slices_ContainsFunc_S_Sint64__Sint64__impl_areItems_c1 N a0) fun y1 =>
 some (pNot y1)
def impl_size_SSint64 (N : Nat) (a0 : List (List (Int))) : Option (Int) :=
 some (pLen a0)
def spec_l01Src_l04Ring.l5 {R : Type} (N : Nat) (d : Int × (List Int × Int × Int × Int × Unit) × (List (List Int) × Int × Unit) × (List (List Int) × Int × Unit) × Unit) (kn : Int × (List Int × Int × Int × Int × Unit) × (List (List Int) × Int × Unit) × (List (List Int) × Int × Unit) × Unit → Option R) (kx : (List Int × Int × Int × Int × Unit) × (List (List Int) × Int × Unit) × (List (List Int) × Int × Unit) × Unit → Option R) : Option R :=
 let x62 := d.1;
 let x63 := d.2.1;
 let x64 := d.2.2.1;
 let x65 := d.2.2.2.1;
 ifB (pGt x62 0) (
 bindO (spec_l01Src_n N x63 5) fun y66 =>
 bindO (spec_l01Src_points N y66.2 (pAdd .i64 1 y66.1)) fun y67 =>
 ifB (pFit x65.1 [y67.1]) (
 kn ((pSub .i64 x62 1), y67.2, x64, ((pApp x65.1 [y67.1]), x65.2), ())) (
 none)) (
 kx (x63, x64, x65, ()))
end Go.AE.F
end
