/- Functions as they are printed out of the program: plain Lean, nothing is claimed here. -/
import Derived.Test.YteoociojgeokmaaDoorA5
noncomputable section
namespace Go.AE.F
open Go.AE
def laws_szInt64S (N : Nat) (a0 : List (Int)) (a1 : Int) : Option (Int) :=
 ifB (pLt (pSub .i64 a1 (pLen a0)) 0) (
 some (-1)) (
 some (pSub .i64 a1 (pLen a0)))
def laws_toInt64S.l3 {R : Type} (N : Nat) (d : List Int × Int × List Int × Unit) (kn : List Int × Int × List Int × Unit → Option R) (kx : List Int × Unit → Option R) : Option R :=
 let x46 := d.1;
 let x47 := d.2.1;
 let x48 := d.2.2.1;
 ifB (pLt x47 (pLen x46)) (
 bindO (idx x46 x47) fun y52 =>
 bindO (idx x48 x47) fun y53 =>
 bindO (idx x48 x47) fun y54 =>
 kn (x46, (pAdd .i64 x47 1), (pSet x48 x47 y52), ())) (
 kx (x48, ()))
def laws_toInt64S (N : Nat) (a0 : List (Int)) : Option (List Int) :=
 ifB (pEq (pLen a0) (pLen a0)) (
 ifB (pLe 0 (pLen a0)) (
 ifB (pLe (pLen a0) 68719476736) (
 loopP (laws_toInt64S.l3 N) N (a0, 0, (pRepl (pLen a0) 0), ()) (
 fun d =>
 let x55 := d.1;
 some x55)) (
 none)) (
 none)) (
 none)
def spec_l01Point (N : Nat) (a0 : Int) : Option (Bool) :=
 bindO (
 ifB (pGe a0 0) (
 some (pLe a0 1114111)) (
 some false)) fun y3 =>
 bindO (
 ifB y3 (
 bindO (
 ifB (pGe a0 55296) (
 some (pLe a0 57343)) (
 some false)) fun y5 =>
 some (pNot y5)) (
 some false)) fun y4 =>
 some y4
def impl_within (N : Nat) (a0 : Int) (a1 : Int) (a2 : Int) : Option (Bool) :=
 bindO (
 ifB (pLe a1 a0) (
 some (pLe a0 a2)) (
 some false)) fun y1 =>
 some y1
def impl_isPoint (N : Nat) (a0 : Int) : Option (Bool) :=
 bindO (impl_within N a0 0 1114111) fun y3 =>
 bindO (
 ifB y3 (
 bindO (impl_within N a0 55296 57343) fun y5 =>
 some (pNot y5)) (
 some false)) fun y4 =>
 some y4
def laws_eqInt64S.l4 {R : Type} (N : Nat) (d : List Int × List Int × Int × Unit) (kn : List Int × List Int × Int × Unit → Option R) (kx : (Unit) ⊕ (Bool × Unit) → Option R) : Option R :=
 let x36 := d.1;
 let x37 := d.2.1;
 let x38 := d.2.2.1;
 ifB (pLt x38 (pLen x36)) (
 bindO (idx x36 x38) fun y41 =>
 bindO (idx x37 x38) fun y42 =>
 ifB (pNe y41 y42) (
 kx (.inr (false, ()))) (
 kn (x36, x37, (pAdd .i64 x38 1), ()))) (
 kx (.inl (())))
def laws_eqInt64S (N : Nat) (a0 : List (Int)) (a1 : List (Int)) : Option (Bool) :=
 ifB (pNe (pLen a0) (pLen a1)) (
 some false) (
 loopP (laws_eqInt64S.l4 N) N (a0, a1, 0, ()) (
 onSum (fun d =>
 some true) (
 fun d =>
 let x43 := d.1;
 some x43)))
def spec_l01Same.l4 {R : Type} (N : Nat) (d : List Int × List Int × Int × Unit) (kn : List Int × List Int × Int × Unit → Option R) (kx : (Unit) ⊕ (Bool × Unit) → Option R) : Option R :=
 let x36 := d.1;
 let x37 := d.2.1;
 let x38 := d.2.2.1;
 ifB (pLt x38 (pLen x36)) (
 bindO (idx x36 x38) fun y41 =>
 bindO (idx x37 x38) fun y42 =>
 ifB (pNe y41 y42) (
 kx (.inr (false, ()))) (
 kn (x36, x37, (pAdd .i64 x38 1), ()))) (
 kx (.inl (())))
def spec_l01Same (N : Nat) (a0 : List (Int)) (a1 : List (Int)) : Option (Bool) :=
 ifB (pNe (pLen a0) (pLen a1)) (
 some false) (
 loopP (spec_l01Same.l4 N) N (a0, a1, 0, ()) (
 onSum (fun d =>
 some true) (
 fun d =>
 let x43 := d.1;
 some x43)))
def slices_Equal_Sint64_int64.l4 {R : Type} (N : Nat) (d : List Int × List Int × Int × Int × Unit) (kn : List Int × List Int × Int × Int × Unit → Option R) (kx : (Unit) ⊕ (Bool × Unit) → Option R) : Option R :=
 let x41 := d.1;
 let x42 := d.2.1;
 let x43 := d.2.2.1;
 let x44 := d.2.2.2.1;
 ifB (pLt x44 x43) (
 bindO (idx x41 x44) fun y47 =>
 bindO (idx x42 x44) fun y48 =>
 ifB (pNe y47 y48) (
 kx (.inr (false, ()))) (
 kn (x41, x42, x43, (pAdd .i64 x44 1), ()))) (
 kx (.inl (())))
def slices_Equal_Sint64_int64 (N : Nat) (a0 : List (Int)) (a1 : List (Int)) : Option (Bool) :=
 ifB (pNe (pLen a0) (pLen a1)) (
 some false) (
 loopP (slices_Equal_Sint64_int64.l4 N) N (a0, a1, (pLen a0), 0, ()) (
 onSum (fun d =>
 some true) (
 fun d =>
 let x49 := d.1;
 some x49)))
def spec_l01Bytes (N : Nat) (a0 : Int) : Option (List Int) :=
 ifB (pLt a0 128) (
 some [(pConv .u8 a0)]) (
 ifB (pLt a0 2048) (
 ifB (pEq 64 0) (
 none) (
 ifB (pEq 64 0) (
 none) (
 some [(pConv .u8 (pAdd .i64 192 (pQuo .i64 a0 64))), (pConv .u8 (pAdd .i64 128 (pRem a0 64)))]))) (
 ifB (pLt a0 65536) (
 ifB (pEq 4096 0) (
 none) (
 ifB (pEq 64 0) (
 none) (
 ifB (pEq 64 0) (
 none) (
 ifB (pEq 64 0) (
 none) (
 some [(pConv .u8 (pAdd .i64 224 (pQuo .i64 a0 4096))), (pConv .u8 (pAdd .i64 128 (pRem (pQuo .i64 a0 64) 64))), (pConv .u8 (pAdd .i64 128 (pRem a0 64)))]))))) (
 ifB (pEq 262144 0) (
 none) (
 ifB (pEq 4096 0) (
 none) (
 ifB (pEq 64 0) (
 none) (
 ifB (pEq 64 0) (
 none) (
 ifB (pEq 64 0) (
 none) (
 ifB (pEq 64 0) (
 none) (
 some [(pConv .u8 (pAdd .i64 240 (pQuo .i64 a0 262144))), (pConv .u8 (pAdd .i64 128 (pRem (pQuo .i64 a0 4096) 64))), (pConv .u8 (pAdd .i64 128 (pRem (pQuo .i64 a0 64) 64))), (pConv .u8 (pAdd .i64 128 (pRem a0 64)))])))))))))
def spec_l01Dec.l5 {R : Type} (N : Nat) (d : Int × Bool × ByteArray × Unit) (kn : Int × Bool × ByteArray × Unit → Option R) (kx : Bool × ByteArray × Unit → Option R) : Option R :=
 let x10 := d.1;
 let x11 := d.2.1;
 let x12 := d.2.2.1;
 ifB (pNe x10 0) (
 ifB (pEq 10 0) (
 none) (
 ifB (pLt (pRem x10 10) 0) (
 ifB (pFitS (bytesOf [(pConv .u8 (pAdd .i64 48 (pSub .i64 0 (pRem x10 10))))]) x12) (
 ifB (pEq 10 0) (
 none) (
 kn ((pQuo .i64 x10 10), x11, (pCat (bytesOf [(pConv .u8 (pAdd .i64 48 (pSub .i64 0 (pRem x10 10))))]) x12), ()))) (
 none)) (
 ifB (pFitS (bytesOf [(pConv .u8 (pAdd .i64 48 (pRem x10 10)))]) x12) (
 ifB (pEq 10 0) (
 none) (
 kn ((pQuo .i64 x10 10), x11, (pCat (bytesOf [(pConv .u8 (pAdd .i64 48 (pRem x10 10)))]) x12), ()))) (
 none)))) (
 kx (x11, x12, ()))
def spec_l01Dec (N : Nat) (a0 : Int) : Option (ByteArray) :=
 ifB (pEq a0 0) (
 some (ByteArray.mk #[48])) (
 loopP (spec_l01Dec.l5 N) N (a0, (pLt a0 0), (ByteArray.mk #[]), ()) (
 fun d =>
 let x13 := d.1;
 let x14 := d.2.1;
 ifB x13 (
 ifB (pFitS (ByteArray.mk #[45]) x14) (
 some (pCat (ByteArray.mk #[45]) x14)) (
 none)) (
 some x14)))
def impl_isCols (N : Nat) (a0 : Int) : Option (Bool) :=
 bindO (impl_within N a0 2 80) fun y1 =>
 some y1
def impl_isControl (N : Nat) (a0 : Int) : Option (Bool) :=
 bindO (
 ifB (pLt a0 32) (
 some true) (
 some (pEq a0 127))) fun y1 =>
 some y1
def impl_WidthOf.l6 {R : Type} (N : Nat) (d : Int × Int × Int × (List (Int × Int × Unit × Unit)) × Unit) (kn : Int × Int × Int × (List (Int × Int × Unit × Unit)) × Unit → Option R) (kx : (Unit) ⊕ (Int × Unit) → Option R) : Option R :=
 let x26 := d.1;
 let x27 := d.2.1;
 let x28 := d.2.2.1;
 let x29 := d.2.2.2.1;
 ifB (pLt x28 x27) (
 bindO (idx x29 x28) fun y30 =>
 bindO (idx x29 x28) fun y31 =>
 bindO (impl_within N x26 y31.1 y31.2.1) fun y32 =>
 ifB y32 (
 kx (.inr (2, ()))) (
 kn (x26, x27, (pAdd .i64 x28 1), x29, ()))) (
 kx (.inl (())))
def impl_WidthOf (N : Nat) (a0 : Int) : Option (Int) :=
 bindO (impl_isPoint N a0) fun y22 =>
 bindO (
 ifB (pNot y22) (
 some true) (
 bindO (impl_within N a0 768 879) fun y24 =>
 some y24)) fun y23 =>
 ifB y23 (
 some 0) (
 bindO (impl_isControl N a0) fun y25 =>
 ifB y25 (
 some 2) (
 loopP (impl_WidthOf.l6 N) N (a0, (pLen [(4352, (4447, ((), ()))), (11904, (42191, ((), ()))), (44032, (55203, ((), ()))), (63744, (64255, ((), ()))), (65281, (65376, ((), ()))), (127744, (129791, ((), ())))]), 0, [(4352, (4447, ((), ()))), (11904, (42191, ((), ()))), (44032, (55203, ((), ()))), (63744, (64255, ((), ()))), (65281, (65376, ((), ()))), (127744, (129791, ((), ())))], ()) (
 onSum (fun d =>
 some 1) (
 fun d =>
 let x33 := d.1;
 some x33))))
def spec_l08Size (N : Nat) (a0 : Int) (a1 : Int) : Option (Bool) :=
 bindO (
 ifB (pGe a0 1) (
 some (pLe a0 24)) (
 some false)) fun y3 =>
 bindO (
 ifB y3 (
 some (pGe a1 2)) (
 some false)) fun y4 =>
 bindO (
 ifB y4 (
 some (pLe a1 80)) (
 some false)) fun y5 =>
 some y5
def spec_WidthOf (N : Nat) (a0 : Int) : Option (Int) :=
 bindO (spec_l01Point N a0) fun y16 =>
 bindO (
 ifB (pNot y16) (
 some true) (
 bindO (
 ifB (pGe a0 768) (
 some (pLe a0 879)) (
 some false)) fun y18 =>
 some y18)) fun y17 =>
 ifB y17 (
 some 0) (
 bindO (
 ifB (pLt a0 32) (
 some true) (
 some (pEq a0 127))) fun y19 =>
 bindO (
 ifB y19 (
 some true) (
 bindO (
 ifB (pGe a0 4352) (
 some (pLe a0 4447)) (
 some false)) fun y21 =>
 some y21)) fun y20 =>
 bindO (
 ifB y20 (
 some true) (
 bindO (
 ifB (pGe a0 11904) (
 some (pLe a0 42191)) (
 some false)) fun y23 =>
 some y23)) fun y22 =>
 bindO (
 ifB y22 (
 some true) (
 bindO (
 ifB (pGe a0 44032) (
 some (pLe a0 55203)) (
 some false)) fun y25 =>
 some y25)) fun y24 =>
 bindO (
 ifB y24 (
 some true) (
 bindO (
 ifB (pGe a0 63744) (
 some (pLe a0 64255)) (
 some false)) fun y27 =>
 some y27)) fun y26 =>
 bindO (
 ifB y26 (
 some true) (
 bindO (
 ifB (pGe a0 65281) (
 some (pLe a0 65376)) (
 some false)) fun y29 =>
 some y29)) fun y28 =>
 bindO (
 ifB y28 (
 some true) (
 bindO (
 ifB (pGe a0 127744) (
 some (pLe a0 129791)) (
 some false)) fun y31 =>
 some y31)) fun y30 =>
 ifB y30 (
 some 2) (
 some 1))
def spec_l08Wide (N : Nat) (a0 : List (Int) × Int × Unit) : Option (Bool) :=
 bindO (
 ifB (pGt (pLen a0.1) 0) (
 bindO (idx a0.1 0) fun y4 =>
 bindO (spec_WidthOf N y4) fun y5 =>
 some (pEq y5 2)) (
 some false)) fun y3 =>
 some y3
def laws_szCell (N : Nat) (a0 : List (Int) × Int × Unit) (a1 : Int) : Option (Int) :=
 bindO (laws_szInt64S N a0.1 a1) fun y1 =>
 ifB (pLt y1 0) (
 some (-1)) (
 some y1)
def laws_szCellS.l5 {R : Type} (N : Nat) (d : (List (List Int × Int × Unit)) × Int × Int × Unit) (kn : (List (List Int × Int × Unit)) × Int × Int × Unit → Option R) (kx : (Int × Unit) ⊕ (Int × Unit) → Option R) : Option R :=
 let x14 := d.1;
 let x15 := d.2.1;
 let x16 := d.2.2.1;
 ifB (pLt x16 (pLen x14)) (
 bindO (idx x14 x16) fun y17 =>
 bindO (laws_szCell N y17 x15) fun y18 =>
 ifB (pLt y18 0) (
 kx (.inr ((-1), ()))) (
 kn (x14, y18, (pAdd .i64 x16 1), ()))) (
 kx (.inl (x15, ())))
def laws_szCellS (N : Nat) (a0 : List (List (Int) × Int × Unit)) (a1 : Int) : Option (Int) :=
 ifB (pLt (pSub .i64 a1 (pLen a0)) 0) (
 some (-1)) (
 loopP (laws_szCellS.l5 N) N (a0, (pSub .i64 a1 (pLen a0)), 0, ()) (
 onSum (fun d =>
 let x19 := d.1;
 some x19) (
 fun d =>
 let x20 := d.1;
 some x20)))
def laws_szGrid (N : Nat) (a0 : Int × Int × (List (List (Int) × Int × Unit)) × Int × Int × Bool × Int × Unit) (a1 : Int) : Option (Int) :=
 bindO (laws_szCellS N a0.2.2.1 a1) fun y1 =>
 ifB (pLt y1 0) (
 some (-1)) (
 some y1)
end Go.AE.F
end
