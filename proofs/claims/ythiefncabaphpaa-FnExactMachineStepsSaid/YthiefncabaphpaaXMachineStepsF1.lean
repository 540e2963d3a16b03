/- Functions as they are printed out of the program: plain Lean, nothing is claimed here. -/
import Derived.Test.YthiefncabaphpaaA5
noncomputable section
namespace Go.AE.F
open Go.AE
def laws_szInt64S (N : Nat) (a0 : List (Int)) (a1 : Int) : Option (Int) :=
 ifB (pLt (pSub .i64 a1 (pLen a0)) 0) (
 some (-1)) (
 some (pSub .i64 a1 (pLen a0)))
def laws_toInt64S.l3 {R : Type} (N : Nat) (d : List Int × Int × List Int × Unit) (kn : List Int × Int × List Int × Unit → Option R) (kx : List Int × Unit → Option R) : Option R :=
 let x46 := d.1;
 let x47 := d.2.1;
 let x48 := d.2.2.1;
 ifB (pLt x47 (pLen x46)) (
 bindO (idx x46 x47) fun y52 =>
 bindO (idx x48 x47) fun y53 =>
 bindO (idx x48 x47) fun y54 =>
 kn (x46, (pAdd .i64 x47 1), (pSet x48 x47 y52), ())) (
 kx (x48, ()))
def laws_toInt64S (N : Nat) (a0 : List (Int)) : Option (List Int) :=
 ifB (pEq (pLen a0) (pLen a0)) (
 ifB (pLe 0 (pLen a0)) (
 ifB (pLe (pLen a0) 68719476736) (
 loopP (laws_toInt64S.l3 N) N (a0, 0, (pRepl (pLen a0) 0), ()) (
 fun d =>
 let x55 := d.1;
 some x55)) (
 none)) (
 none)) (
 none)
def spec_l01Point (N : Nat) (a0 : Int) : Option (Bool) :=
 bindO (
 ifB (pGe a0 0) (
 some (pLe a0 1114111)) (
 some false)) fun y3 =>
 bindO (
 ifB y3 (
 bindO (
 ifB (pGe a0 55296) (
 some (pLe a0 57343)) (
 some false)) fun y5 =>
 some (pNot y5)) (
 some false)) fun y4 =>
 some y4
def spec_ClassOf (N : Nat) (a0 : Int) : Option (Int) :=
 bindO (spec_l01Point N a0) fun y10 =>
 ifB (pNot y10) (
 some 0) (
 bindO (
 ifB (pEq a0 32) (
 some true) (
 some (pEq a0 9))) fun y11 =>
 bindO (
 ifB y11 (
 some true) (
 some (pEq a0 10))) fun y12 =>
 ifB y12 (
 some 1) (
 bindO (
 ifB (pGe a0 97) (
 some (pLe a0 122)) (
 some false)) fun y13 =>
 bindO (
 ifB y13 (
 some true) (
 bindO (
 ifB (pGe a0 65) (
 some (pLe a0 90)) (
 some false)) fun y15 =>
 some y15)) fun y14 =>
 bindO (
 ifB y14 (
 some true) (
 bindO (
 ifB (pGe a0 48) (
 some (pLe a0 57)) (
 some false)) fun y17 =>
 some y17)) fun y16 =>
 bindO (
 ifB y16 (
 some true) (
 some (pEq a0 95))) fun y18 =>
 bindO (
 ifB y18 (
 some true) (
 some (pGe a0 128))) fun y19 =>
 ifB y19 (
 some 2) (
 some 3)))
def impl_size_Sint64 (N : Nat) (a0 : List (Int)) : Option (Int) :=
 some (pLen a0)
def impl_within (N : Nat) (a0 : Int) (a1 : Int) (a2 : Int) : Option (Bool) :=
 bindO (
 ifB (pLe a1 a0) (
 some (pLe a0 a2)) (
 some false)) fun y1 =>
 some y1
def impl_isPoint (N : Nat) (a0 : Int) : Option (Bool) :=
 bindO (impl_within N a0 0 1114111) fun y3 =>
 bindO (
 ifB y3 (
 bindO (impl_within N a0 55296 57343) fun y5 =>
 some (pNot y5)) (
 some false)) fun y4 =>
 some y4
def impl_ClassOf (N : Nat) (a0 : Int) : Option (Int) :=
 bindO (impl_isPoint N a0) fun y30 =>
 ifB (pNot y30) (
 some 0) (
 bindO (
 ifB (pEq a0 32) (
 some true) (
 some (pEq a0 9))) fun y31 =>
 bindO (
 ifB y31 (
 some true) (
 some (pEq a0 10))) fun y32 =>
 ifB y32 (
 some 1) (
 bindO (impl_within N a0 65 90) fun y33 =>
 bindO (
 ifB y33 (
 some true) (
 bindO (impl_within N a0 97 122) fun y35 =>
 some y35)) fun y34 =>
 bindO (
 ifB y34 (
 some true) (
 bindO (impl_within N a0 48 57) fun y37 =>
 some y37)) fun y36 =>
 bindO (
 ifB y36 (
 some true) (
 some (pEq a0 95))) fun y38 =>
 bindO (
 ifB y38 (
 some true) (
 some (pGe a0 128))) fun y39 =>
 ifB y39 (
 some 2) (
 some 3)))
def laws_eqInt64S.l4 {R : Type} (N : Nat) (d : List Int × List Int × Int × Unit) (kn : List Int × List Int × Int × Unit → Option R) (kx : (Unit) ⊕ (Bool × Unit) → Option R) : Option R :=
 let x36 := d.1;
 let x37 := d.2.1;
 let x38 := d.2.2.1;
 ifB (pLt x38 (pLen x36)) (
 bindO (idx x36 x38) fun y41 =>
 bindO (idx x37 x38) fun y42 =>
 ifB (pNe y41 y42) (
 kx (.inr (false, ()))) (
 kn (x36, x37, (pAdd .i64 x38 1), ()))) (
 kx (.inl (())))
def laws_eqInt64S (N : Nat) (a0 : List (Int)) (a1 : List (Int)) : Option (Bool) :=
 ifB (pNe (pLen a0) (pLen a1)) (
 some false) (
 loopP (laws_eqInt64S.l4 N) N (a0, a1, 0, ()) (
 onSum (fun d =>
 some true) (
 fun d =>
 let x43 := d.1;
 some x43)))
def laws_szBuf (N : Nat) (a0 : List (Int) × Int × Int × Unit) (a1 : Int) : Option (Int) :=
 bindO (laws_szInt64S N a0.1 a1) fun y1 =>
 ifB (pLt y1 0) (
 some (-1)) (
 some y1)
def spec_PointsRight.l4 {R : Type} (N : Nat) (d : List Int × Int × Unit) (kn : List Int × Int × Unit → Option R) (kx : (Unit) ⊕ (Bool × Unit) → Option R) : Option R :=
 let x31 := d.1;
 let x32 := d.2.1;
 ifB (pLt x32 (pLen x31)) (
 bindO (idx x31 x32) fun y35 =>
 bindO (spec_l01Point N y35) fun y36 =>
 ifB (pNot y36) (
 kx (.inr (false, ()))) (
 kn (x31, (pAdd .i64 x32 1), ()))) (
 kx (.inl (())))
def spec_PointsRight (N : Nat) (a0 : List (Int)) : Option (Bool) :=
 ifB (pGt (pLen a0) 300) (
 some false) (
 loopP (spec_PointsRight.l4 N) N (a0, 0, ()) (
 onSum (fun d =>
 some true) (
 fun d =>
 let x37 := d.1;
 some x37)))
def spec_BufRight (N : Nat) (a0 : List (Int) × Int × Int × Unit) : Option (Bool) :=
 bindO (spec_PointsRight N a0.1) fun y5 =>
 bindO (
 ifB y5 (
 some (pGe a0.2.1 0)) (
 some false)) fun y6 =>
 bindO (
 ifB y6 (
 some (pLe a0.2.1 (pLen a0.1))) (
 some false)) fun y7 =>
 bindO (
 ifB y7 (
 some (pGe a0.2.2.1 0)) (
 some false)) fun y8 =>
 bindO (
 ifB y8 (
 some (pLe a0.2.2.1 (pLen a0.1))) (
 some false)) fun y9 =>
 some y9
def spec_l01Copy (N : Nat) (a0 : List (Int)) : Option (List Int) :=
 ifB (pFit [] a0) (
 some (pApp [] a0)) (
 none)
def impl_PointsRight_c1 (N : Nat) (a0 : Int) : Option (Bool) :=
 bindO (impl_isPoint N a0) fun y1 =>
 some (pNot y1)
def slices_IndexFunc_Sint64_int64__impl_PointsRight_c1.l2 {R : Type} (N : Nat) (d : List Int × Int × Int × Unit) (kn : List Int × Int × Int × Unit → Option R) (kx : (Unit) ⊕ (Int × Unit) → Option R) : Option R :=
 let x36 := d.1;
 let x37 := d.2.1;
 let x38 := d.2.2.1;
 ifB (pLt x38 x37) (
 bindO (idx x36 x38) fun y41 =>
 bindO (impl_PointsRight_c1 N y41) fun y42 =>
 ifB y42 (
 kx (.inr (x38, ()))) (
 kn (x36, x37, (pAdd .i64 x38 1), ()))) (
 kx (.inl (())))
def slices_IndexFunc_Sint64_int64__impl_PointsRight_c1 (N : Nat) (a0 : List (Int)) : Option (Int) :=
 loopP (slices_IndexFunc_Sint64_int64__impl_PointsRight_c1.l2 N) N (a0, (pLen a0), 0, ()) (
 onSum (fun d =>
 some (-1)) (
 fun d =>
 let x43 := d.1;
 some x43))
def slices_ContainsFunc_Sint64_int64__impl_PointsRight_c1 (N : Nat) (a0 : List (Int)) : Option (Bool) :=
 bindO (slices_IndexFunc_Sint64_int64__impl_PointsRight_c1 N a0) fun y1 =>
 some (pGe y1 0)
def impl_PointsRight (N : Nat) (a0 : List (Int)) : Option (Bool) :=
 bindO (
 ifB (pLe (pLen a0) 300) (
 bindO (slices_ContainsFunc_Sint64_int64__impl_PointsRight_c1 N a0) fun y3 =>
 some (pNot y3)) (
 some false)) fun y2 =>
 some y2
def impl_Buf_isPlace (N : Nat) (a0 : List (Int) × Int × Int × Unit) (a1 : Int) : Option (Bool) :=
 bindO (impl_size_Sint64 N a0.1) fun y2 =>
 bindO (impl_within N a1 0 y2) fun y3 =>
 some y3
def impl_BufRight (N : Nat) (a0 : List (Int) × Int × Int × Unit) : Option (Bool) :=
 bindO (impl_PointsRight N a0.1) fun y5 =>
 bindO (
 ifB y5 (
 bindO (impl_Buf_isPlace N a0 a0.2.1) fun y7 =>
 some y7) (
 some false)) fun y6 =>
 bindO (
 ifB y6 (
 bindO (impl_Buf_isPlace N a0 a0.2.2.1) fun y9 =>
 some y9) (
 some false)) fun y8 =>
 some y8
def impl_Buf_isWord (N : Nat) (a0 : List (Int) × Int × Int × Unit) (a1 : Int) : Option (Bool) :=
 bindO (idx a0.1 a1) fun y2 =>
 bindO (impl_ClassOf N y2) fun y3 =>
 some (pEq y3 2)
def laws_eqBuf (N : Nat) (a0 : List (Int) × Int × Int × Unit) (a1 : List (Int) × Int × Int × Unit) : Option (Bool) :=
 bindO (laws_eqInt64S N a0.1 a1.1) fun y1 =>
 ifB (pNot y1) (
 some false) (
 ifB (pNe a0.2.1 a1.2.1) (
 some false) (
 ifB (pNe a0.2.2.1 a1.2.2.1) (
 some false) (
 some true)))
def laws_toBuf (N : Nat) (a0 : List (Int) × Int × Int × Unit) : Option (List Int × Int × Int × Unit) :=
 bindO (laws_toInt64S N a0.1) fun y1 =>
 some (y1, (a0.2.1, (a0.2.2.1, ())))
def slices_Clone_Sint64_int64.g {R : Type} (N : Nat) (a0 : List (Int)) (k : List Int → Option R) : Option R :=
 ifB (pEq (pLen a0) 0) (
 same (
 k []) (
 ifB (pFit [] a0) (
 k (pApp [] a0)) (
 none))) (
 ifB (pFit [] a0) (
 k (pApp [] a0)) (
 none))
def slices_Clone_Sint64_int64 (N : Nat) (a0 : List (Int)) : Option (List Int) := slices_Clone_Sint64_int64.g N a0 some
def laws_szOpS (N : Nat) (a0 : List (Int × Int × Unit)) (a1 : Int) : Option (Int) :=
 ifB (pLt (pSub .i64 a1 (pLen a0)) 0) (
 some (-1)) (
 some (pSub .i64 a1 (pLen a0)))
def laws_toOp (N : Nat) (a0 : Int × Int × Unit) : Option (Int × Int × Unit) :=
 some (a0.1, (a0.2.1, ()))
def laws_toOpS.l3 {R : Type} (N : Nat) (d : (List (Int × Int × Unit)) × Int × (List (Int × Int × Unit)) × Unit) (kn : (List (Int × Int × Unit)) × Int × (List (Int × Int × Unit)) × Unit → Option R) (kx : (List (Int × Int × Unit)) × Unit → Option R) : Option R :=
 let x19 := d.1;
 let x20 := d.2.1;
 let x21 := d.2.2.1;
 ifB (pLt x20 (pLen x19)) (
 bindO (idx x19 x20) fun y22 =>
 bindO (laws_toOp N y22) fun y23 =>
 bindO (idx x21 x20) fun y24 =>
 bindO (idx x21 x20) fun y25 =>
 kn (x19, (pAdd .i64 x20 1), (pSet x21 x20 y23), ())) (
 kx (x21, ()))
def laws_toOpS (N : Nat) (a0 : List (Int × Int × Unit)) : Option (List (Int × Int × Unit)) :=
 ifB (pEq (pLen a0) (pLen a0)) (
 ifB (pLe 0 (pLen a0)) (
 ifB (pLe (pLen a0) 68719476736) (
 loopP (laws_toOpS.l3 N) N (a0, 0, (pRepl (pLen a0) (0, (0, ()))), ()) (
 fun d =>
 let x26 := d.1;
 some x26)) (
 none)) (
 none)) (
 none)
end Go.AE.F
end
