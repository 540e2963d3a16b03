/- Functions as they are printed out of the program: plain Lean, nothing is claimed here. -/
import Derived.Test.YteoociojgeokmaaDoorXSendF3
noncomputable section
namespace Go.AE.F
open Go.AE
def laws_eqCellS (N : Nat) (a0 : List (List (Int) × Int × Unit)) (a1 : List (List (Int) × Int × Unit)) : Option (Bool) :=
 ifB (pNe (pLen a0) (pLen a1)) (
 some false) (
 loopP (laws_eqCellS.l4 N) N (a0, a1, 0, ()) (
 onSum (fun d =>
 some true) (
 fun d =>
 let x22 := d.1;
 some x22)))
def laws_eqGrid (N : Nat) (a0 : Int × Int × (List (List (Int) × Int × Unit)) × Int × Int × Bool × Int × Unit) (a1 : Int × Int × (List (List (Int) × Int × Unit)) × Int × Int × Bool × Int × Unit) : Option (Bool) :=
 ifB (pNe a0.1 a1.1) (
 some false) (
 ifB (pNe a0.2.1 a1.2.1) (
 some false) (
 bindO (laws_eqCellS N a0.2.2.1 a1.2.2.1) fun y1 =>
 ifB (pNot y1) (
 some false) (
 ifB (pNe a0.2.2.2.1 a1.2.2.2.1) (
 some false) (
 ifB (pNe a0.2.2.2.2.1 a1.2.2.2.2.1) (
 some false) (
 ifB (pNot (pBeq a0.2.2.2.2.2.1 a1.2.2.2.2.2.1)) (
 some false) (
 ifB (pNe a0.2.2.2.2.2.2.1 a1.2.2.2.2.2.2.1) (
 some false) (
 some true)))))))
def spec_Send.l9 {R : Type} (N : Nat) (d : Int × Bool × Int × (Int × Int × (List (List Int × Int × Unit)) × Int × Int × Bool × Int × Unit) × (Int × Int × (List (List Int × Int × Unit)) × Int × Int × Bool × Int × Unit) × List Int × Unit) (kn : Int × Bool × Int × (Int × Int × (List (List Int × Int × Unit)) × Int × Int × Bool × Int × Unit) × (Int × Int × (List (List Int × Int × Unit)) × Int × Int × Bool × Int × Unit) × List Int × Unit → Option R) (kx : Int × Bool × (Int × Int × (List (List Int × Int × Unit)) × Int × Int × Bool × Int × Unit) × (Int × Int × (List (List Int × Int × Unit)) × Int × Int × Bool × Int × Unit) × List Int × Unit → Option R) : Option R :=
 let x76 := d.1;
 let x77 := d.2.1;
 let x78 := d.2.2.1;
 let x79 := d.2.2.2.1;
 let x80 := d.2.2.2.2.1;
 let x81 := d.2.2.2.2.2.1;
 ifB (pLt x78 x80.2.1) (
 bindO (idx x79.2.2.1 (pAdd .i64 (pMul .i64 x76 x80.2.1) x78)) fun y82 =>
 bindO (idx x80.2.2.1 (pAdd .i64 (pMul .i64 x76 x80.2.1) x78)) fun y83 =>
 bindO (
 ifB x77 (
 some (pEq y82.2.1 y83.2.1)) (
 some false)) fun y84 =>
 bindO (
 ifB y84 (
 bindO (spec_l01Same N y82.1 y83.1) fun y86 =>
 some y86) (
 some false)) fun y85 =>
 kn (x76, y85, (pAdd .i64 x78 1), x79, x80, x81, ())) (
 kx (x76, x77, x79, x80, x81, ()))
def spec_Send.l5 {R : Type} (N : Nat) (d : Int × (Int × Int × (List (List Int × Int × Unit)) × Int × Int × Bool × Int × Unit) × (Int × Int × (List (List Int × Int × Unit)) × Int × Int × Bool × Int × Unit) × List Int × Unit) (kn : Int × (Int × Int × (List (List Int × Int × Unit)) × Int × Int × Bool × Int × Unit) × (Int × Int × (List (List Int × Int × Unit)) × Int × Int × Bool × Int × Unit) × List Int × Unit → Option R) (kx : (Int × Int × (List (List Int × Int × Unit)) × Int × Int × Bool × Int × Unit) × (Int × Int × (List (List Int × Int × Unit)) × Int × Int × Bool × Int × Unit) × List Int × Unit → Option R) : Option R :=
 let x72 := d.1;
 let x73 := d.2.1;
 let x74 := d.2.2.1;
 let x75 := d.2.2.2.1;
 ifB (pLt x72 x74.1) (
 bindO (A := Int × (Int × Int × (List (List Int × Int × Unit)) × Int × Int × Bool × Int × Unit) × (Int × Int × (List (List Int × Int × Unit)) × Int × Int × Bool × Int × Unit) × List Int × Unit) (
 loopP (spec_Send.l9 N) N (x72, true, 0, x73, x74, x75, ()) (
 fun d =>
 let x87 := d.1;
 let x88 := d.2.1;
 let x89 := d.2.2.1;
 let x90 := d.2.2.2.1;
 let x91 := d.2.2.2.2.1;
 ifB (pNot x88) (
 bindO (spec_l10Row N x90 x87) fun y92 =>
 ifB (pFit x91 y92) (
 some (x87, x89, x90, (pApp x91 y92), ())) (
 none)) (
 some (x87, x89, x90, x91, ())))) (
 fun d =>
 let x93 := d.1;
 let x94 := d.2.1;
 let x95 := d.2.2.1;
 let x96 := d.2.2.2.1;
 kn ((pAdd .i64 x93 1), x94, x95, x96, ()))) (
 kx (x73, x74, x75, ()))
def spec_Send (N : Nat) (a0 : Int × Int × (List (List (Int) × Int × Unit)) × Int × Int × Bool × Int × Unit) (a1 : Int × Int × (List (List (Int) × Int × Unit)) × Int × Int × Bool × Int × Unit) : Option (ByteArray) :=
 bindO (spec_FlatRight N a0) fun y67 =>
 bindO (
 ifB (pNot y67) (
 some true) (
 bindO (spec_FlatRight N a1) fun y69 =>
 some (pNot y69))) fun y68 =>
 bindO (
 ifB y68 (
 some true) (
 some (pNe a0.1 a1.1))) fun y70 =>
 bindO (
 ifB y70 (
 some true) (
 some (pNe a0.2.1 a1.2.1))) fun y71 =>
 ifB y71 (
 some (ByteArray.mk #[])) (
 loopP (spec_Send.l5 N) N (0, a0, a1, [], ()) (
 fun d =>
 let x97 := d.1;
 let x98 := d.2.1;
 let x99 := d.2.2.1;
 bindO (
 ifB (pGt (pLen x99) 0) (
 some true) (
 some (pNe x97.2.2.2.1 x98.2.2.2.1))) fun y100 =>
 bindO (
 ifB y100 (
 some true) (
 some (pNe x97.2.2.2.2.1 x98.2.2.2.2.1))) fun y101 =>
 ifB y101 (
 bindO (spec_l01Dec N (pAdd .i64 x98.2.2.2.1 1)) fun y102 =>
 ifB (pFitS (ByteArray.mk #[27, 91]) y102) (
 ifB (pFitS (pCat (ByteArray.mk #[27, 91]) y102) (ByteArray.mk #[59])) (
 bindO (spec_l01Dec N (pAdd .i64 x98.2.2.2.2.1 1)) fun y103 =>
 ifB (pFitS (pCat (pCat (ByteArray.mk #[27, 91]) y102) (ByteArray.mk #[59])) y103) (
 ifB (pFitS (pCat (pCat (pCat (ByteArray.mk #[27, 91]) y102) (ByteArray.mk #[59])) y103) (ByteArray.mk #[72])) (
 ifB (pFit x99 (strInts (pCat (pCat (pCat (pCat (ByteArray.mk #[27, 91]) y102) (ByteArray.mk #[59])) y103) (ByteArray.mk #[72])))) (
 some (bytesOf (pApp x99 (strInts (pCat (pCat (pCat (pCat (ByteArray.mk #[27, 91]) y102) (ByteArray.mk #[59])) y103) (ByteArray.mk #[72])))))) (
 none)) (
 none)) (
 none)) (
 none)) (
 none)) (
 some (bytesOf x99))))
def impl_sameCells_c1 (N : Nat) (a0 : List (Int) × Int × Unit) (a1 : List (Int) × Int × Unit) : Option (Bool) :=
 bindO (
 ifB (pEq a0.2.1 a1.2.1) (
 bindO (slices_Equal_Sint64_int64 N a0.1 a1.1) fun y3 =>
 some y3) (
 some false)) fun y2 =>
 some y2
def slices_EqualFunc_Simpl_Cell__Simpl_Cell_impl_Cell_impl_Cell__impl_sameCells_c1.l4 {R : Type} (N : Nat) (d : (List (List Int × Int × Unit)) × (List (List Int × Int × Unit)) × Int × Int × Unit) (kn : (List (List Int × Int × Unit)) × (List (List Int × Int × Unit)) × Int × Int × Unit → Option R) (kx : (Unit) ⊕ (Bool × Unit) → Option R) : Option R :=
 let x18 := d.1;
 let x19 := d.2.1;
 let x20 := d.2.2.1;
 let x21 := d.2.2.2.1;
 ifB (pLt x21 x20) (
 bindO (idx x19 x21) fun y22 =>
 bindO (idx x18 x21) fun y23 =>
 bindO (impl_sameCells_c1 N y22 y23) fun y24 =>
 ifB (pNot y24) (
 kx (.inr (false, ()))) (
 kn (x18, x19, x20, (pAdd .i64 x21 1), ()))) (
 kx (.inl (())))
def slices_EqualFunc_Simpl_Cell__Simpl_Cell_impl_Cell_impl_Cell__impl_sameCells_c1 (N : Nat) (a0 : List (List (Int) × Int × Unit)) (a1 : List (List (Int) × Int × Unit)) : Option (Bool) :=
 ifB (pNe (pLen a0) (pLen a1)) (
 some false) (
 loopP (slices_EqualFunc_Simpl_Cell__Simpl_Cell_impl_Cell_impl_Cell__impl_sameCells_c1.l4 N) N (a1, a0, (pLen a0), 0, ()) (
 onSum (fun d =>
 some true) (
 fun d =>
 let x25 := d.1;
 some x25)))
def impl_sameCells (N : Nat) (a0 : List (List (Int) × Int × Unit)) (a1 : List (List (Int) × Int × Unit)) : Option (Bool) :=
 bindO (slices_EqualFunc_Simpl_Cell__Simpl_Cell_impl_Cell_impl_Cell__impl_sameCells_c1 N a0 a1) fun y1 =>
 some y1
def impl_Send.l5 {R : Type} (N : Nat) (d : Int × Int × (Int × Int × (List (List Int × Int × Unit)) × Int × Int × Bool × Int × Unit) × (Int × Int × (List (List Int × Int × Unit)) × Int × Int × Bool × Int × Unit) × (List Unit × List Int × Unit) × Unit) (kn : Int × Int × (Int × Int × (List (List Int × Int × Unit)) × Int × Int × Bool × Int × Unit) × (Int × Int × (List (List Int × Int × Unit)) × Int × Int × Bool × Int × Unit) × (List Unit × List Int × Unit) × Unit → Option R) (kx : (Int × Int × (List (List Int × Int × Unit)) × Int × Int × Bool × Int × Unit) × (Int × Int × (List (List Int × Int × Unit)) × Int × Int × Bool × Int × Unit) × (List Unit × List Int × Unit) × Unit → Option R) : Option R :=
 let x40 := d.1;
 let x41 := d.2.1;
 let x42 := d.2.2.1;
 let x43 := d.2.2.2.1;
 let x44 := d.2.2.2.2.1;
 ifB (pLt x41 x40) (
 bindO (A := Int × Int × (Int × Int × (List (List Int × Int × Unit)) × Int × Int × Bool × Int × Unit) × (Int × Int × (List (List Int × Int × Unit)) × Int × Int × Bool × Int × Unit) × (List Unit × List Int × Unit) × Unit) (
 ifB (pLe 0 (pMul .i64 x41 x43.2.1)) (
 ifB (pLe (pMul .i64 x41 x43.2.1) (pMul .i64 (pAdd .i64 x41 1) x43.2.1)) (
 ifB (pLe (pMul .i64 (pAdd .i64 x41 1) x43.2.1) (pLen x42.2.2.1)) (
 ifB (pLe 0 (pMul .i64 x41 x43.2.1)) (
 ifB (pLe (pMul .i64 x41 x43.2.1) (pMul .i64 (pAdd .i64 x41 1) x43.2.1)) (
 ifB (pLe (pMul .i64 (pAdd .i64 x41 1) x43.2.1) (pLen x43.2.2.1)) (
 bindO (impl_sameCells N (sub x42.2.2.1 (pMul .i64 x41 x43.2.1) (pMul .i64 (pAdd .i64 x41 1) x43.2.1)) (sub x43.2.2.1 (pMul .i64 x41 x43.2.1) (pMul .i64 (pAdd .i64 x41 1) x43.2.1))) fun y45 =>
 ifB (pNot y45) (
 bindO (impl_Grid_sendRow N x43 x41) fun y46 =>
 ifB (pFit x44.2.1 (strInts y46)) (
 some (x40, x41, x42, x43, ([], ((pApp x44.2.1 (strInts y46)), ())), ())) (
 none)) (
 some (x40, x41, x42, x43, x44, ()))) (
 none)) (
 none)) (
 none)) (
 none)) (
 none)) (
 none)) (
 fun d =>
 let x47 := d.1;
 let x48 := d.2.1;
 let x49 := d.2.2.1;
 let x50 := d.2.2.2.1;
 let x51 := d.2.2.2.2.1;
 kn (x47, (pAdd .i64 x48 1), x49, x50, x51, ()))) (
 kx (x42, x43, x44, ()))
def impl_Send (N : Nat) (a0 : Int × Int × (List (List (Int) × Int × Unit)) × Int × Int × Bool × Int × Unit) (a1 : Int × Int × (List (List (Int) × Int × Unit)) × Int × Int × Bool × Int × Unit) : Option (ByteArray) :=
 bindO (impl_FlatRight N a0) fun y35 =>
 bindO (
 ifB (pNot y35) (
 some true) (
 bindO (impl_FlatRight N a1) fun y37 =>
 some (pNot y37))) fun y36 =>
 bindO (
 ifB y36 (
 some true) (
 some (pNe a0.1 a1.1))) fun y38 =>
 bindO (
 ifB y38 (
 some true) (
 some (pNe a0.2.1 a1.2.1))) fun y39 =>
 ifB y39 (
 some (ByteArray.mk #[])) (
 loopP (impl_Send.l5 N) N (a1.1, 0, a0, a1, ([], ([], ())), ()) (
 fun d =>
 let x52 := d.1;
 let x53 := d.2.1;
 let x54 := d.2.2.1;
 bindO (
 ifB (pGt (pLen x54.2.1) 0) (
 some true) (
 some (pNe x52.2.2.2.1 x53.2.2.2.1))) fun y55 =>
 bindO (
 ifB y55 (
 some true) (
 some (pNe x52.2.2.2.2.1 x53.2.2.2.2.1))) fun y56 =>
 ifB y56 (
 bindO (impl_goTo N x53.2.2.2.1 x53.2.2.2.2.1) fun y57 =>
 ifB (pFit x54.2.1 (strInts y57)) (
 some (bytesOf (pApp x54.2.1 (strInts y57)))) (
 none)) (
 some (bytesOf x54.2.1))))
def laws_FnExactSend (N : Nat) (a0 : Int × Int × (List (List (Int) × Int × Unit)) × Int × Int × Bool × Int × Unit) (a1 : Int × Int × (List (List (Int) × Int × Unit)) × Int × Int × Bool × Int × Unit) : Option (Bool) :=
 bindO (laws_szGrid N a0 1048576) fun y12 =>
 ifB (pLt y12 0) (
 some true) (
 bindO (laws_szGrid N a1 y12) fun y13 =>
 ifB (pLt y13 0) (
 some true) (
 bindO (laws_toGrid N a0) fun y14 =>
 bindO (laws_toGrid N a1) fun y15 =>
 bindO (spec_Send N y14 y15) fun y16 =>
 bindO (laws_toGrid N a0) fun y17 =>
 bindO (laws_toGrid N a1) fun y18 =>
 bindO (impl_Send N y17 y18) fun y19 =>
 ifB (pNot (pSEq y19 y16)) (
 some false) (
 bindO (laws_toGrid N a0) fun y20 =>
 bindO (laws_eqGrid N y17 y20) fun y21 =>
 ifB (pNot y21) (
 some false) (
 bindO (laws_toGrid N a1) fun y22 =>
 bindO (laws_eqGrid N y18 y22) fun y23 =>
 ifB (pNot y23) (
 some false) (
 some true)))))
end Go.AE.F
end
