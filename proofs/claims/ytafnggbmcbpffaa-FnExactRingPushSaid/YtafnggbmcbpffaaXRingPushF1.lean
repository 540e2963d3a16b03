/- Functions as they are printed out of the program: plain Lean, nothing is claimed here. -/
import Derived.Test.YtafnggbmcbpffaaA5
noncomputable section
namespace Go.AE.F
open Go.AE
def laws_szInt64S (N : Nat) (a0 : List (Int)) (a1 : Int) : Option (Int) :=
 ifB (pLt (pSub .i64 a1 (pLen a0)) 0) (
 some (-1)) (
 some (pSub .i64 a1 (pLen a0)))
def laws_szInt64SS.l5 {R : Type} (N : Nat) (d : List (List Int) × Int × Int × Unit) (kn : List (List Int) × Int × Int × Unit → Option R) (kx : (Int × Unit) ⊕ (Int × Unit) → Option R) : Option R :=
 let x37 := d.1;
 let x38 := d.2.1;
 let x39 := d.2.2.1;
 ifB (pLt x39 (pLen x37)) (
 bindO (idx x37 x39) fun y42 =>
 bindO (laws_szInt64S N y42 x38) fun y43 =>
 ifB (pLt y43 0) (
 kx (.inr ((-1), ()))) (
 kn (x37, y43, (pAdd .i64 x39 1), ()))) (
 kx (.inl (x38, ())))
def laws_szInt64SS (N : Nat) (a0 : List (List (Int))) (a1 : Int) : Option (Int) :=
 ifB (pLt (pSub .i64 a1 (pLen a0)) 0) (
 some (-1)) (
 loopP (laws_szInt64SS.l5 N) N (a0, (pSub .i64 a1 (pLen a0)), 0, ()) (
 onSum (fun d =>
 let x44 := d.1;
 some x44) (
 fun d =>
 let x45 := d.1;
 some x45)))
def laws_toInt64S.l3 {R : Type} (N : Nat) (d : List Int × Int × List Int × Unit) (kn : List Int × Int × List Int × Unit → Option R) (kx : List Int × Unit → Option R) : Option R :=
 let x46 := d.1;
 let x47 := d.2.1;
 let x48 := d.2.2.1;
 ifB (pLt x47 (pLen x46)) (
 bindO (idx x46 x47) fun y52 =>
 bindO (idx x48 x47) fun y53 =>
 bindO (idx x48 x47) fun y54 =>
 kn (x46, (pAdd .i64 x47 1), (pSet x48 x47 y52), ())) (
 kx (x48, ()))
def laws_toInt64S (N : Nat) (a0 : List (Int)) : Option (List Int) :=
 ifB (pEq (pLen a0) (pLen a0)) (
 ifB (pLe 0 (pLen a0)) (
 ifB (pLe (pLen a0) 68719476736) (
 loopP (laws_toInt64S.l3 N) N (a0, 0, (pRepl (pLen a0) 0), ()) (
 fun d =>
 let x55 := d.1;
 some x55)) (
 none)) (
 none)) (
 none)
def laws_toInt64SS.l3 {R : Type} (N : Nat) (d : List (List Int) × Int × List (List Int) × Unit) (kn : List (List Int) × Int × List (List Int) × Unit → Option R) (kx : List (List Int) × Unit → Option R) : Option R :=
 let x56 := d.1;
 let x57 := d.2.1;
 let x58 := d.2.2.1;
 ifB (pLt x57 (pLen x56)) (
 bindO (idx x56 x57) fun y63 =>
 bindO (laws_toInt64S N y63) fun y64 =>
 bindO (idx x58 x57) fun y65 =>
 bindO (idx x58 x57) fun y66 =>
 kn (x56, (pAdd .i64 x57 1), (pSet x58 x57 y64), ())) (
 kx (x58, ()))
def laws_toInt64SS (N : Nat) (a0 : List (List (Int))) : Option (List (List Int)) :=
 ifB (pEq (pLen a0) (pLen a0)) (
 ifB (pLe 0 (pLen a0)) (
 ifB (pLe (pLen a0) 68719476736) (
 loopP (laws_toInt64SS.l3 N) N (a0, 0, (pRepl (pLen a0) []), ()) (
 fun d =>
 let x67 := d.1;
 some x67)) (
 none)) (
 none)) (
 none)
def spec_l01Point (N : Nat) (a0 : Int) : Option (Bool) :=
 bindO (
 ifB (pGe a0 0) (
 some (pLe a0 1114111)) (
 some false)) fun y3 =>
 bindO (
 ifB y3 (
 bindO (
 ifB (pGe a0 55296) (
 some (pLe a0 57343)) (
 some false)) fun y5 =>
 some (pNot y5)) (
 some false)) fun y4 =>
 some y4
def impl_within (N : Nat) (a0 : Int) (a1 : Int) (a2 : Int) : Option (Bool) :=
 bindO (
 ifB (pLe a1 a0) (
 some (pLe a0 a2)) (
 some false)) fun y1 =>
 some y1
def impl_isPoint (N : Nat) (a0 : Int) : Option (Bool) :=
 bindO (impl_within N a0 0 1114111) fun y3 =>
 bindO (
 ifB y3 (
 bindO (impl_within N a0 55296 57343) fun y5 =>
 some (pNot y5)) (
 some false)) fun y4 =>
 some y4
def laws_eqInt64S.l4 {R : Type} (N : Nat) (d : List Int × List Int × Int × Unit) (kn : List Int × List Int × Int × Unit → Option R) (kx : (Unit) ⊕ (Bool × Unit) → Option R) : Option R :=
 let x36 := d.1;
 let x37 := d.2.1;
 let x38 := d.2.2.1;
 ifB (pLt x38 (pLen x36)) (
 bindO (idx x36 x38) fun y41 =>
 bindO (idx x37 x38) fun y42 =>
 ifB (pNe y41 y42) (
 kx (.inr (false, ()))) (
 kn (x36, x37, (pAdd .i64 x38 1), ()))) (
 kx (.inl (())))
def laws_eqInt64S (N : Nat) (a0 : List (Int)) (a1 : List (Int)) : Option (Bool) :=
 ifB (pNe (pLen a0) (pLen a1)) (
 some false) (
 loopP (laws_eqInt64S.l4 N) N (a0, a1, 0, ()) (
 onSum (fun d =>
 some true) (
 fun d =>
 let x43 := d.1;
 some x43)))
def laws_eqInt64SS.l4 {R : Type} (N : Nat) (d : List (List Int) × List (List Int) × Int × Unit) (kn : List (List Int) × List (List Int) × Int × Unit → Option R) (kx : (Unit) ⊕ (Bool × Unit) → Option R) : Option R :=
 let x46 := d.1;
 let x47 := d.2.1;
 let x48 := d.2.2.1;
 ifB (pLt x48 (pLen x46)) (
 bindO (idx x46 x48) fun y52 =>
 bindO (idx x47 x48) fun y53 =>
 bindO (laws_eqInt64S N y52 y53) fun y54 =>
 ifB (pNot y54) (
 kx (.inr (false, ()))) (
 kn (x46, x47, (pAdd .i64 x48 1), ()))) (
 kx (.inl (())))
def laws_eqInt64SS (N : Nat) (a0 : List (List (Int))) (a1 : List (List (Int))) : Option (Bool) :=
 ifB (pNe (pLen a0) (pLen a1)) (
 some false) (
 loopP (laws_eqInt64SS.l4 N) N (a0, a1, 0, ()) (
 onSum (fun d =>
 some true) (
 fun d =>
 let x55 := d.1;
 some x55)))
def spec_PointsRight.l4 {R : Type} (N : Nat) (d : List Int × Int × Unit) (kn : List Int × Int × Unit → Option R) (kx : (Unit) ⊕ (Bool × Unit) → Option R) : Option R :=
 let x31 := d.1;
 let x32 := d.2.1;
 ifB (pLt x32 (pLen x31)) (
 bindO (idx x31 x32) fun y35 =>
 bindO (spec_l01Point N y35) fun y36 =>
 ifB (pNot y36) (
 kx (.inr (false, ()))) (
 kn (x31, (pAdd .i64 x32 1), ()))) (
 kx (.inl (())))
def spec_PointsRight (N : Nat) (a0 : List (Int)) : Option (Bool) :=
 ifB (pGt (pLen a0) 300) (
 some false) (
 loopP (spec_PointsRight.l4 N) N (a0, 0, ()) (
 onSum (fun d =>
 some true) (
 fun d =>
 let x37 := d.1;
 some x37)))
def spec_l01Copy (N : Nat) (a0 : List (Int)) : Option (List Int) :=
 ifB (pFit [] a0) (
 some (pApp [] a0)) (
 none)
def impl_PointsRight_c1 (N : Nat) (a0 : Int) : Option (Bool) :=
 bindO (impl_isPoint N a0) fun y1 =>
 some (pNot y1)
def slices_IndexFunc_Sint64_int64__impl_PointsRight_c1.l2 {R : Type} (N : Nat) (d : List Int × Int × Int × Unit) (kn : List Int × Int × Int × Unit → Option R) (kx : (Unit) ⊕ (Int × Unit) → Option R) : Option R :=
 let x36 := d.1;
 let x37 := d.2.1;
 let x38 := d.2.2.1;
 ifB (pLt x38 x37) (
 bindO (idx x36 x38) fun y41 =>
 bindO (impl_PointsRight_c1 N y41) fun y42 =>
 ifB y42 (
 kx (.inr (x38, ()))) (
 kn (x36, x37, (pAdd .i64 x38 1), ()))) (
 kx (.inl (())))
def slices_IndexFunc_Sint64_int64__impl_PointsRight_c1 (N : Nat) (a0 : List (Int)) : Option (Int) :=
 loopP (slices_IndexFunc_Sint64_int64__impl_PointsRight_c1.l2 N) N (a0, (pLen a0), 0, ()) (
 onSum (fun d =>
 some (-1)) (
 fun d =>
 let x43 := d.1;
 some x43))
def slices_ContainsFunc_Sint64_int64__impl_PointsRight_c1 (N : Nat) (a0 : List (Int)) : Option (Bool) :=
 bindO (slices_IndexFunc_Sint64_int64__impl_PointsRight_c1 N a0) fun y1 =>
 some (pGe y1 0)
def impl_PointsRight (N : Nat) (a0 : List (Int)) : Option (Bool) :=
 bindO (
 ifB (pLe (pLen a0) 300) (
 bindO (slices_ContainsFunc_Sint64_int64__impl_PointsRight_c1 N a0) fun y3 =>
 some (pNot y3)) (
 some false)) fun y2 =>
 some y2
def laws_markInt64S.l2 {R : Type} (N : Nat) (d : Int × Int × List Int × Unit) (kn : Int × Int × List Int × Unit → Option R) (kx : Int × List Int × Unit → Option R) : Option R :=
 let x37 := d.1;
 let x38 := d.2.1;
 let x39 := d.2.2.1;
 ifB (pLt x38 (pLen x39)) (
 bindO (idx x39 x38) fun y42 =>
 bindO (idx x39 x38) fun y43 =>
 kn ((pAdd .i64 x37 1), (pAdd .i64 x38 1), (pSet x39 x38 x37), ())) (
 kx (x37, x39, ()))
def laws_markInt64S (N : Nat) (a0 : List (Int)) (a1 : Int) : Option (Int × List Int) :=
 loopP (laws_markInt64S.l2 N) N (a1, 0, a0, ()) (
 fun d =>
 let x44 := d.1;
 let x45 := d.2.1;
 some (x44, x45))
def laws_heldInt64S.l2 {R : Type} (N : Nat) (d : List Int × Int × Int × Unit) (kn : List Int × Int × Int × Unit → Option R) (kx : (Int × Unit) ⊕ (Int × Unit) → Option R) : Option R :=
 let x27 := d.1;
 let x28 := d.2.1;
 let x29 := d.2.2.1;
 ifB (pLt x29 (pLen x27)) (
 bindO (idx x27 x29) fun y31 =>
 ifB (pNe y31 x28) (
 kx (.inr ((-1), ()))) (
 kn (x27, (pAdd .i64 x28 1), (pAdd .i64 x29 1), ()))) (
 kx (.inl (x28, ())))
def laws_heldInt64S (N : Nat) (a0 : List (Int)) (a1 : Int) : Option (Int) :=
 loopP (laws_heldInt64S.l2 N) N (a0, a1, 0, ()) (
 onSum (fun d =>
 let x32 := d.1;
 some x32) (
 fun d =>
 let x33 := d.1;
 some x33))
def impl_isMany (N : Nat) (a0 : Int) : Option (Bool) :=
 some (pGt a0 400)
def laws_markInt64SS.l2 {R : Type} (N : Nat) (d : Int × Int × List (List Int) × Unit) (kn : Int × Int × List (List Int) × Unit → Option R) (kx : Int × List (List Int) × Unit → Option R) : Option R :=
 let x67 := d.1;
 let x68 := d.2.1;
 let x69 := d.2.2.1;
 ifB (pLt x68 (pLen x69)) (
 bindO (idx x69 x68) fun y75 =>
 bindO (idx x69 x68) fun y76 =>
 bindO (idx x69 x68) fun y77 =>
 bindO (laws_markInt64S N y77 x67) fun y78 =>
 bindO (idx x69 x68) fun y79 =>
 kn (y78.1, (pAdd .i64 x68 1), (pSet x69 x68 y78.2), ())) (
 kx (x67, x69, ()))
def laws_markInt64SS (N : Nat) (a0 : List (List (Int))) (a1 : Int) : Option (Int × List (List Int)) :=
 loopP (laws_markInt64SS.l2 N) N (a1, 0, a0, ()) (
 fun d =>
 let x80 := d.1;
 let x81 := d.2.1;
 some (x80, x81))
def slices_Clone_Sint64_int64.g {R : Type} (N : Nat) (a0 : List (Int)) (k : List Int → Option R) : Option R :=
 ifB (pEq (pLen a0) 0) (
 same (
 k []) (
 ifB (pFit [] a0) (
 k (pApp [] a0)) (
 none))) (
 ifB (pFit [] a0) (
 k (pApp [] a0)) (
 none))
def slices_Clone_Sint64_int64 (N : Nat) (a0 : List (Int)) : Option (List Int) := slices_Clone_Sint64_int64.g N a0 some
def laws_eqRing (N : Nat) (a0 : List (List (Int)) × Int × Unit) (a1 : List (List (Int)) × Int × Unit) : Option (Bool) :=
 bindO (laws_eqInt64SS N a0.1 a1.1) fun y1 =>
 ifB (pNot y1) (
 some false) (
 ifB (pNe a0.2.1 a1.2.1) (
 some false) (
 some true))
def laws_markRing (N : Nat) (a0 : List (List (Int)) × Int × Unit) (a1 : Int) : Option (Int × List (List Int) × Int × Unit) :=
 bindO (laws_markInt64SS N a0.1 a1) fun y1 =>
 some (y1.1, (y1.2, a0.2))
def laws_heldInt64SS.l2 {R : Type} (N : Nat) (d : List (List Int) × Int × Int × Unit) (kn : List (List Int) × Int × Int × Unit → Option R) (kx : (Int × Unit) ⊕ (Int × Unit) → Option R) : Option R :=
 let x14 := d.1;
 let x15 := d.2.1;
 let x16 := d.2.2.1;
 ifB (pLt x16 (pLen x14)) (
 bindO (idx x14 x16) fun y17 =>
 bindO (laws_heldInt64S N y17 x15) fun y18 =>
 ifB (pLt y18 0) (
 kx (.inr ((-1), ()))) (
 kn (x14, y18, (pAdd .i64 x16 1), ()))) (
 kx (.inl (x15, ())))
def laws_heldInt64SS (N : Nat) (a0 : List (List (Int))) (a1 : Int) : Option (Int) :=
 loopP (laws_heldInt64SS.l2 N) N (a0, a1, 0, ()) (
 onSum (fun d =>
 let x19 := d.1;
 some x19) (
 fun d =>
 let x20 := d.1;
 some x20))
def laws_heldRing (N : Nat) (a0 : List (List (Int)) × Int × Unit) (a1 : Int) : Option (Int) :=
 bindO (laws_heldInt64SS N a0.1 a1) fun y1 =>
 ifB (pLt y1 0) (
 some (-1)) (
 some y1)
def spec_l04Items.l4 {R : Type} (N : Nat) (d : List (List Int) × Int × Unit) (kn : List (List Int) × Int × Unit → Option R) (kx : (Unit) ⊕ (Bool × Unit) → Option R) : Option R :=
 let x17 := d.1;
 let x18 := d.2.1;
 ifB (pLt x18 (pLen x17)) (
 bindO (idx x17 x18) fun y19 =>
 bindO (
 ifB (pEq (pLen y19) 0) (
 some true) (
 bindO (idx x17 x18) fun y21 =>
 bindO (spec_PointsRight N y21) fun y22 =>
 some (pNot y22))) fun y20 =>
 ifB y20 (
 kx (.inr (false, ()))) (
 kn (x17, (pAdd .i64 x18 1), ()))) (
 kx (.inl (())))
def spec_l04Items (N : Nat) (a0 : List (List (Int))) (a1 : Int) : Option (Bool) :=
 ifB (pGt (pLen a0) a1) (
 some false) (
 loopP (spec_l04Items.l4 N) N (a0, 0, ()) (
 onSum (fun d =>
 some true) (
 fun d =>
 let x23 := d.1;
 some x23)))
def impl_ownLists.l3 {R : Type} (N : Nat) (d : List (List Int) × Int × Int × List (List Int) × Unit) (kn : List (List Int) × Int × Int × List (List Int) × Unit → Option R) (kx : List (List Int) × Unit → Option R) : Option R :=
 let x15 := d.1;
 let x16 := d.2.1;
 let x17 := d.2.2.1;
 let x18 := d.2.2.2.1;
 ifB (pLt x17 x16) (
 bindO (idx x15 x17) fun y19 =>
 bindO (slices_Clone_Sint64_int64 N y19) fun y20 =>
 ifB (pFit x18 [y20]) (
 kn (x15, x16, (pAdd .i64 x17 1), (pApp x18 [y20]), ())) (
 none)) (
 kx (x18, ()))
def impl_ownLists (N : Nat) (a0 : List (List (Int))) : Option (List (List Int)) :=
 loopP (impl_ownLists.l3 N) N (a0, (pLen a0), 0, [], ()) (
 fun d =>
 let x21 := d.1;
 some x21)
def impl_isItem (N : Nat) (a0 : List (Int)) : Option (Bool) :=
 bindO (
 ifB (pGt (pLen a0) 0) (
 bindO (impl_PointsRight N a0) fun y3 =>
 some y3) (
 some false)) fun y2 =>
 some y2
def impl_areItems_c1 (N : Nat) (a0 : List (Int)) : Option (Bool) :=
 bindO (impl_isItem N a0) fun y1 =>
 some (pNot y1)
end Go.AE.F
end
