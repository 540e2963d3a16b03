/- Functions as they are printed out of the program: plain Lean, nothing is claimed here. -/
import Derived.Test.YtpenpjbobpalcaaA6
noncomputable section
namespace Go.AE.F
open Go.AE
def zAR (N : Nat) (a0 : Int) (a1 : Int) (a2 : Int) : Option (Bool) :=
 bindO (
 ifB (pLe a1 a0) (
 some (pLe a0 a2)) (
 some false)) fun y1 =>
 some y1
def zAD.l4 {R : Type} (N : Nat) (d : Int × ByteArray × Unit) (kn : Int × ByteArray × Unit → Option R) (kx : ByteArray × Unit → Option R) : Option R :=
 let x6 := d.1;
 let x7 := d.2.1;
 ifB (pGt x6 0) (
 ifB (pEq 10 0) (
 none) (
 ifB (pFitS (bytesOf [(pConv .u8 (pAdd .i64 48 (pRem x6 10)))]) x7) (
 ifB (pEq 10 0) (
 none) (
 kn ((pQuo .i64 x6 10), (pCat (bytesOf [(pConv .u8 (pAdd .i64 48 (pRem x6 10)))]) x7), ()))) (
 none))) (
 kx (x7, ()))
def zAD (N : Nat) (a0 : Int) : Option (ByteArray) :=
 ifB (pLe a0 0) (
 some (ByteArray.mk #[109, 48])) (
 loopP (zAD.l4 N) N (a0, (ByteArray.mk #[]), ()) (
 fun d =>
 let x8 := d.1;
 ifB (pFitS (ByteArray.mk #[109]) x8) (
 some (pCat (ByteArray.mk #[109]) x8)) (
 none)))
def zAQ (N : Nat) (a0 : List (Int × Int × Unit)) : Option (Int) :=
 some (pLen a0)
def zBH (N : Nat) (a0 : Int × Int × Unit) (a1 : Int × Int × Unit) : Option (Bool) :=
 ifB (pNe a0.1 a1.1) (
 some false) (
 ifB (pNe a0.2.1 a1.2.1) (
 some false) (
 some true))
def zAM.l4 {R : Type} (N : Nat) (d : (List (Int × Int × Unit)) × (List (Int × Int × Unit)) × Int × Unit) (kn : (List (Int × Int × Unit)) × (List (Int × Int × Unit)) × Int × Unit → Option R) (kx : (Unit) ⊕ (Bool × Unit) → Option R) : Option R :=
 let x16 := d.1;
 let x17 := d.2.1;
 let x18 := d.2.2.1;
 ifB (pLt x18 (pLen x16)) (
 bindO (idx x16 x18) fun y19 =>
 bindO (idx x17 x18) fun y20 =>
 bindO (zBH N y19 y20) fun y21 =>
 ifB (pNot y21) (
 kx (.inr (false, ()))) (
 kn (x16, x17, (pAdd .i64 x18 1), ()))) (
 kx (.inl (())))
def zAM (N : Nat) (a0 : List (Int × Int × Unit)) (a1 : List (Int × Int × Unit)) : Option (Bool) :=
 ifB (pNe (pLen a0) (pLen a1)) (
 some false) (
 loopP (zAM.l4 N) N (a0, a1, 0, ()) (
 onSum (fun d =>
 some true) (
 fun d =>
 let x22 := d.1;
 some x22)))
def zAI.l2 {R : Type} (N : Nat) (d : Int × Int × (List (Int × Int × Unit)) × Unit) (kn : Int × Int × (List (Int × Int × Unit)) × Unit → Option R) (kx : Int × (List (Int × Int × Unit)) × Unit → Option R) : Option R :=
 let x20 := d.1;
 let x21 := d.2.1;
 let x22 := d.2.2.1;
 ifB (pLt x21 (pLen x22)) (
 bindO (idx x22 x21) fun y23 =>
 bindO (idx x22 x21) fun y24 =>
 bindO (idx (pSet x22 x21 (x20, y24.2)) x21) fun y25 =>
 bindO (idx (pSet x22 x21 (x20, y24.2)) x21) fun y26 =>
 kn ((pAdd .i64 (pAdd .i64 x20 1) 1), (pAdd .i64 x21 1), (pSet (pSet x22 x21 (x20, y24.2)) x21 (y26.1, ((pAdd .i64 x20 1), y26.2.2))), ())) (
 kx (x20, x22, ()))
def zAI (N : Nat) (a0 : List (Int × Int × Unit)) (a1 : Int) : Option (Int × List (Int × Int × Unit)) :=
 loopP (zAI.l2 N) N (a1, 0, a0, ()) (
 fun d =>
 let x27 := d.1;
 let x28 := d.2.1;
 some (x27, x28))
def zAS (N : Nat) : Option (List ByteArray) :=
 some [(ByteArray.mk #[]), (ByteArray.mk #[108, 101, 102, 116]), (ByteArray.mk #[114, 105, 103, 104, 116]), (ByteArray.mk #[119, 111, 114, 100, 45, 98, 97, 99, 107]), (ByteArray.mk #[119, 111, 114, 100, 45, 110, 101, 120, 116]), (ByteArray.mk #[108, 105, 110, 101, 45, 115, 116, 97, 114, 116]), (ByteArray.mk #[108, 105, 110, 101, 45, 101, 110, 100]), (ByteArray.mk #[117, 112]), (ByteArray.mk #[100, 111, 119, 110]), (ByteArray.mk #[102, 105, 114, 115, 116]), (ByteArray.mk #[108, 97, 115, 116])]
def zA9.l3 {R : Type} (N : Nat) (d : ByteArray × Int × List ByteArray × Unit) (kn : ByteArray × Int × List ByteArray × Unit → Option R) (kx : (Unit) ⊕ (Int × Unit) → Option R) : Option R :=
 let x15 := d.1;
 let x16 := d.2.1;
 let x17 := d.2.2.1;
 ifB (pLt x16 (pLen x17)) (
 bindO (idx x17 x16) fun y18 =>
 bindO (idx x17 x16) fun y19 =>
 ifB (pSEq y19 x15) (
 kx (.inr (x16, ()))) (
 kn (x15, (pAdd .i64 x16 1), x17, ()))) (
 kx (.inl (())))
def zA9 (N : Nat) (a0 : ByteArray) : Option (Int) :=
 bindO (zAS N) fun y14 =>
 loopP (zA9.l3 N) N (a0, 1, y14, ()) (
 onSum (fun d =>
 some 0) (
 fun d =>
 let x20 := d.1;
 some x20))
def zAG.l4 {R : Type} (N : Nat) (d : ByteArray × Int × Unit) (kn : ByteArray × Int × Unit → Option R) (kx : (Unit) ⊕ (Bool × Unit) → Option R) : Option R :=
 let x22 := d.1;
 let x23 := d.2.1;
 ifB (pLt x23 (pSize x22)) (
 bindO (bidx x22 x23) fun y24 =>
 bindO (
 ifB (pGe y24 97) (
 bindO (bidx x22 x23) fun y26 =>
 some (pLe y26 122)) (
 some false)) fun y25 =>
 bindO (
 ifB y25 (
 some true) (
 bindO (bidx x22 x23) fun y28 =>
 some (pEq y28 45))) fun y27 =>
 ifB (pNot y27) (
 kx (.inr (false, ()))) (
 kn (x22, (pAdd .i64 x23 1), ()))) (
 kx (.inl (())))
def zAG (N : Nat) (a0 : ByteArray) : Option (Bool) :=
 bindO (
 ifB (pLt (pSize a0) 1) (
 some true) (
 some (pGt (pSize a0) 20))) fun y21 =>
 ifB y21 (
 some false) (
 loopP (zAG.l4 N) N (a0, 0, ()) (
 onSum (fun d =>
 some true) (
 fun d =>
 let x29 := d.1;
 some x29)))
def zAX (N : Nat) : Option (List ByteArray) :=
 some [(ByteArray.mk #[]), (ByteArray.mk #[]), (ByteArray.mk #[108, 101, 116]), (ByteArray.mk #[105, 102]), (ByteArray.mk #[119, 104, 105, 108, 101]), (ByteArray.mk #[105, 110, 115, 101, 114, 116]), (ByteArray.mk #[100, 101, 108, 101, 116, 101]), (ByteArray.mk #[103, 111]), (ByteArray.mk #[109, 97, 114, 107]), (ByteArray.mk #[98, 101, 108, 108]), (ByteArray.mk #[100, 111]), (ByteArray.mk #[]), (ByteArray.mk #[]), (ByteArray.mk #[99, 117, 114, 115, 111, 114]), (ByteArray.mk #[108, 101, 110, 103, 116, 104]), (ByteArray.mk #[109, 97, 114, 107, 97, 116]), (ByteArray.mk #[97, 116]), (ByteArray.mk #[110, 111, 116]), (ByteArray.mk #[111, 114]), (ByteArray.mk #[97, 110, 100]), (ByteArray.mk #[60]), (ByteArray.mk #[61]), (ByteArray.mk #[62]), (ByteArray.mk #[43]), (ByteArray.mk #[45]), (ByteArray.mk #[42]), (ByteArray.mk #[47]), (ByteArray.mk #[101, 108, 115, 101])]
def zAF.l3 {R : Type} (N : Nat) (d : ByteArray × Int × List ByteArray × Unit) (kn : ByteArray × Int × List ByteArray × Unit → Option R) (kx : (Unit) ⊕ (Int × Unit) → Option R) : Option R :=
 let x18 := d.1;
 let x19 := d.2.1;
 let x20 := d.2.2.1;
 ifB (pLt x19 (pLen x20)) (
 bindO (idx x20 x19) fun y21 =>
 bindO (idx x20 x19) fun y22 =>
 bindO (
 ifB (pSEq y22 x18) (
 some (pNot (pSEq x18 (ByteArray.mk #[])))) (
 some false)) fun y23 =>
 ifB y23 (
 kx (.inr (x19, ()))) (
 kn (x18, (pAdd .i64 x19 1), x20, ()))) (
 kx (.inl (())))
def zAF (N : Nat) (a0 : ByteArray) : Option (Int) :=
 bindO (zAX N) fun y17 =>
 loopP (zAF.l3 N) N (a0, 2, y17, ()) (
 onSum (fun d =>
 some 0) (
 fun d =>
 let x24 := d.1;
 some x24))
def zB0 (N : Nat) (a0 : ByteArray) : Option (Bool) :=
 bindO (zAG N a0) fun y5 =>
 bindO (
 ifB y5 (
 bindO (bidx a0 0) fun y7 =>
 some (pNe y7 45)) (
 some false)) fun y6 =>
 bindO (
 ifB y6 (
 bindO (zAF N a0) fun y9 =>
 some (pEq y9 0)) (
 some false)) fun y8 =>
 some y8
def zB7 (N : Nat) (a0 : Int × Int × ByteArray × Int × Unit) : Option (Bool) :=
 bindO (
 ifB (pLt a0.1 1) (
 some true) (
 some (pGt a0.1 26))) fun y10 =>
 ifB y10 (
 some false) (
 ifB (pEq a0.1 11) (
 bindO (
 ifB (pGe a0.2.1 0) (
 some (pLe a0.2.1 999999999)) (
 some false)) fun y11 =>
 bindO (
 ifB y11 (
 some (pSEq a0.2.2.1 (ByteArray.mk #[]))) (
 some false)) fun y12 =>
 some y12) (
 ifB (pEq a0.1 2) (
 bindO (
 ifB (pEq a0.2.1 0) (
 bindO (zB0 N a0.2.2.1) fun y14 =>
 some y14) (
 some false)) fun y13 =>
 some y13) (
 ifB (pEq a0.1 12) (
 bindO (
 ifB (pEq a0.2.1 0) (
 bindO (zB0 N a0.2.2.1) fun y16 =>
 some y16) (
 some false)) fun y15 =>
 some y15) (
 ifB (pEq a0.1 10) (
 bindO (
 ifB (pEq a0.2.1 0) (
 bindO (zA9 N a0.2.2.1) fun y18 =>
 some (pGt y18 0)) (
 some false)) fun y17 =>
 some y17) (
 bindO (
 ifB (pEq a0.2.1 0) (
 some (pSEq a0.2.2.1 (ByteArray.mk #[]))) (
 some false)) fun y19 =>
 some y19)))))
def zB3 (N : Nat) (a0 : Int) : Option (Bool) :=
 bindO (
 ifB (pGe a0 2) (
 some (pLe a0 10)) (
 some false)) fun y1 =>
 some y1
def zB2 (N : Nat) (a0 : Int) : Option (Bool) :=
 bindO (
 ifB (pGe a0 11) (
 some (pLe a0 26)) (
 some false)) fun y1 =>
 some y1
def zB4 (N : Nat) (a0 : Int × Int × ByteArray × Int × Unit) : Option (ByteArray) :=
 ifB (pEq a0.1 1) (
 some (ByteArray.mk #[42])) (
 ifB (pEq a0.1 2) (
 some (ByteArray.mk #[101])) (
 ifB (pEq a0.1 5) (
 some (ByteArray.mk #[101])) (
 ifB (pEq a0.1 7) (
 some (ByteArray.mk #[101])) (
 ifB (pEq a0.1 8) (
 some (ByteArray.mk #[101])) (
 ifB (pEq a0.1 16) (
 some (ByteArray.mk #[101])) (
 ifB (pEq a0.1 17) (
 some (ByteArray.mk #[101])) (
 ifB (pEq a0.1 3) (
 ifB (pEq a0.2.2.2.1 3) (
 some (ByteArray.mk #[101, 98, 98])) (
 some (ByteArray.mk #[101, 98]))) (
 ifB (pEq a0.1 4) (
 some (ByteArray.mk #[101, 98])) (
 ifB (pEq a0.1 6) (
 some (ByteArray.mk #[101, 101])) (
 ifB (pEq a0.1 9) (
 some (ByteArray.mk #[])) (
 ifB (pEq a0.1 10) (
 some (ByteArray.mk #[])) (
 ifB (pEq a0.1 11) (
 some (ByteArray.mk #[])) (
 ifB (pEq a0.1 12) (
 some (ByteArray.mk #[])) (
 ifB (pEq a0.1 13) (
 some (ByteArray.mk #[])) (
 ifB (pEq a0.1 14) (
 some (ByteArray.mk #[])) (
 ifB (pEq a0.1 15) (
 some (ByteArray.mk #[])) (
 some (ByteArray.mk #[101, 101]))))))))))))))))))
def zA7.l11 {R : Type} (N : Nat) (rc : (List (Int × Int × ByteArray × Int × Unit)) → (Int) → (Int) → (Int) → Option (Int)) (d : (List (Int × Int × ByteArray × Int × Unit)) × Int × ByteArray × Int × Int × (Int × Int × ByteArray × Int × Unit) × Unit) (kn : (List (Int × Int × ByteArray × Int × Unit)) × Int × ByteArray × Int × Int × (Int × Int × ByteArray × Int × Unit) × Unit → Option R) (kx : (Int × Unit) ⊕ (Int × Unit) → Option R) : Option R :=
 let x66 := d.1;
 let x67 := d.2.1;
 let x68 := d.2.2.1;
 let x69 := d.2.2.2.1;
 let x70 := d.2.2.2.2.1;
 let x71 := d.2.2.2.2.2.1;
 ifB (pLt x70 x71.2.2.2.1) (
 bindO (A := ((List (Int × Int × ByteArray × Int × Unit)) × Int × ByteArray × Int × Int × (Int × Int × ByteArray × Int × Unit) × Unit) ⊕ (Int × Unit)) (
 ifB (pNot (pSEq x68 (ByteArray.mk #[42]))) (
 bindO (bidx x68 x70) fun y72 =>
 bindO (rc x66 x69 y72 (pAdd .i64 x67 1)) fun y73 =>
 ifB (pLt y73 0) (
 some (.inr ((-1), ()))) (
 some (.inl (x66, x67, x68, y73, x70, x71, ())))) (
 bindO (rc x66 x69 115 (pAdd .i64 x67 1)) fun y74 =>
 ifB (pLt y74 0) (
 some (.inr ((-1), ()))) (
 some (.inl (x66, x67, x68, y74, x70, x71, ()))))) (
 onSum (fun d =>
 let x75 := d.1;
 let x76 := d.2.1;
 let x77 := d.2.2.1;
 let x78 := d.2.2.2.1;
 let x79 := d.2.2.2.2.1;
 let x80 := d.2.2.2.2.2.1;
 kn (x75, x76, x77, x78, (pAdd .i64 x79 1), x80, ())) (
 fun d =>
 let x81 := d.1;
 kx (.inr (x81, ()))))) (
 kx (.inl (x69, ())))
end Go.AE.F
end
