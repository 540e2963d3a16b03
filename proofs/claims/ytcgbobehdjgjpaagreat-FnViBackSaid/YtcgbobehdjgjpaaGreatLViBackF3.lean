/- Functions as they are printed out of the program: plain Lean, nothing is claimed here. -/
import Derived.Test.YtcgbobehdjgjpaaGreatLViBackF2
noncomputable section
namespace Go.AE.F
open Go.AE
def zA4 (N : Nat) (a0 : List (Int) × Int × Int × Unit) (a1 : Int) (a2 : Int) (a3 : Int) : Option (Int) :=
 ifB (pEq a2 1) (
 bindO (zBR N 0 (pSub .i64 a1 1)) fun y77 =>
 some y77) (
 ifB (pEq a2 2) (
 bindO (zBL N (pLen a0.1) (pAdd .i64 a1 1)) fun y78 =>
 some y78) (
 ifB (pEq a2 3) (
 loopP (zA4.l8 N) N (a1, a0, ()) (
 fun d =>
 let x84 := d.1;
 let x85 := d.2.1;
 loopP (zA4.l10 N) N (x84, x85, ()) (
 fun d =>
 let x91 := d.1;
 some x91))) (
 ifB (pEq a2 4) (
 loopP (zA4.l14 N) N (a1, (pLen a0.1), a0, ()) (
 fun d =>
 let x98 := d.1;
 let x99 := d.2.1;
 let x100 := d.2.2.1;
 loopP (zA4.l16 N) N (x98, x99, x100, ()) (
 fun d =>
 let x107 := d.1;
 some x107))) (
 ifB (pEq a2 5) (
 bindO (zAK N a0 a1) fun y108 =>
 some y108) (
 ifB (pEq a2 6) (
 bindO (zAV N a0 a1) fun y109 =>
 some y109) (
 ifB (pEq a2 9) (
 some 0) (
 ifB (pEq a2 10) (
 some (pLen a0.1)) (
 loopP (zA4.l28 N) N (a1, a3, (pLen a0.1), (pAdd .i64 a1 1), a0, ()) (
 onSum (fun d =>
 let x116 := d.1;
 some x116) (
 fun d =>
 let x117 := d.1;
 some x117))))))))))
def zB2.l10 {R : Type} (N : Nat) (d : Int × Int × Int × Int × (List Int × Int × Int × Unit) × Unit) (kn : Int × Int × Int × Int × (List Int × Int × Int × Unit) × Unit → Option R) (kx : Int × Unit → Option R) : Option R :=
 let x33 := d.1;
 let x34 := d.2.1;
 let x35 := d.2.2.1;
 let x36 := d.2.2.2.1;
 let x37 := d.2.2.2.2.1;
 ifB (pGt x34 0) (
 bindO (zA4 N x37 x36 x33 x35) fun y38 =>
 kn (x33, (pSub .i64 x34 1), x35, y38, x37, ())) (
 kx (x36, ()))
def zB2 (N : Nat) (a0 : List (Int) × Int × Int × Unit) (a1 : Int) (a2 : Int) (a3 : Int) : Option (Int) :=
 bindO (zB6 N a0) fun y24 =>
 bindO (
 ifB (pNot y24) (
 some true) (
 some (pLt a1 1))) fun y25 =>
 bindO (
 ifB y25 (
 some true) (
 some (pGt a1 11))) fun y26 =>
 bindO (
 ifB y26 (
 some true) (
 some (pLt a2 0))) fun y27 =>
 bindO (
 ifB y27 (
 some true) (
 some (pGt a2 1000))) fun y28 =>
 ifB y28 (
 some (-1)) (
 bindO (
 ifB (pEq a1 7) (
 some true) (
 some (pEq a1 8))) fun y29 =>
 ifB y29 (
 bindO (zAX N a0 a0.2.1) fun y30 =>
 ifB (pEq a1 7) (
 bindO (zAZ N a0 ((pSub .i64 y30.1 a2), y30.2)) fun y31 =>
 some y31) (
 bindO (zAZ N a0 ((pAdd .i64 y30.1 a2), y30.2)) fun y32 =>
 some y32)) (
 loopP (zB2.l10 N) N (a1, a2, a3, a0.2.1, a0, ()) (
 fun d =>
 let x39 := d.1;
 some x39)))
def zC7 (N : Nat) (a0 : List (Int) × Int × Int × Unit) (a1 : Int) (a2 : Int) : Option (Int) :=
 bindO (zAY N a1) fun y2 =>
 ifB (pEq y2 0) (
 some (-1)) (
 bindO (zB2 N a0 y2 a2 0) fun y3 =>
 some y3)
def zCF (N : Nat) (a0 : Int) : Option (Int) :=
 ifB (pEq a0 104) (
 some 1) (
 ifB (pEq a0 108) (
 some 2) (
 ifB (pEq a0 98) (
 some 3) (
 ifB (pEq a0 119) (
 some 4) (
 ifB (pEq a0 48) (
 some 5) (
 ifB (pEq a0 36) (
 some 6) (
 ifB (pEq a0 107) (
 some 7) (
 ifB (pEq a0 106) (
 some 8) (
 ifB (pEq a0 103) (
 some 9) (
 ifB (pEq a0 71) (
 some 10) (
 some 0))))))))))
def zA6.l1 {R : Type} (N : Nat) (d : (List Int × Int × Int × Unit) × Int × Unit) (kn : (List Int × Int × Int × Unit) × Int × Unit → Option R) (kx : (List Int × Int × Int × Unit) × Int × Unit → Option R) : Option R :=
 let x22 := d.1;
 let x23 := d.2.1;
 bindO (
 ifB (pGt x23 0) (
 bindO (zBI N x22 (pSub .i64 x23 1)) fun y25 =>
 some (pNot y25)) (
 some false)) fun y24 =>
 ifB y24 (
 kn (x22, (pSub .i64 x23 1), ())) (
 kx (x22, x23, ()))
def zA6.l3 {R : Type} (N : Nat) (d : (List Int × Int × Int × Unit) × Int × Unit) (kn : (List Int × Int × Int × Unit) × Int × Unit → Option R) (kx : Int × Unit → Option R) : Option R :=
 let x28 := d.1;
 let x29 := d.2.1;
 bindO (
 ifB (pGt x29 0) (
 bindO (zBI N x28 (pSub .i64 x29 1)) fun y31 =>
 some y31) (
 some false)) fun y30 =>
 ifB y30 (
 kn (x28, (pSub .i64 x29 1), ())) (
 kx (x29, ()))
def zA6 (N : Nat) (a0 : List (Int) × Int × Int × Unit) (a1 : Int) : Option (Int) :=
 loopP (zA6.l1 N) N (a0, a1, ()) (
 fun d =>
 let x26 := d.1;
 let x27 := d.2.1;
 loopP (zA6.l3 N) N (x26, x27, ()) (
 fun d =>
 let x32 := d.1;
 some x32))
def zA5.l2 {R : Type} (N : Nat) (d : (List Int × Int × Int × Unit) × Int × Int × Unit) (kn : (List Int × Int × Int × Unit) × Int × Int × Unit → Option R) (kx : (List Int × Int × Int × Unit) × Int × Int × Unit → Option R) : Option R :=
 let x30 := d.1;
 let x31 := d.2.1;
 let x32 := d.2.2.1;
 bindO (
 ifB (pLt x31 x32) (
 bindO (zBI N x30 x31) fun y34 =>
 some (pNot y34)) (
 some false)) fun y33 =>
 ifB y33 (
 kn (x30, (pAdd .i64 x31 1), x32, ())) (
 kx (x30, x31, x32, ()))
def zA5.l4 {R : Type} (N : Nat) (d : (List Int × Int × Int × Unit) × Int × Int × Unit) (kn : (List Int × Int × Int × Unit) × Int × Int × Unit → Option R) (kx : Int × Unit → Option R) : Option R :=
 let x38 := d.1;
 let x39 := d.2.1;
 let x40 := d.2.2.1;
 bindO (
 ifB (pLt x39 x40) (
 bindO (zBI N x38 x39) fun y42 =>
 some y42) (
 some false)) fun y41 =>
 ifB y41 (
 kn (x38, (pAdd .i64 x39 1), x40, ())) (
 kx (x39, ()))
def zA5 (N : Nat) (a0 : List (Int) × Int × Int × Unit) (a1 : Int) : Option (Int) :=
 bindO (zAN N a0.1) fun y29 =>
 loopP (zA5.l2 N) N (a0, a1, y29, ()) (
 fun d =>
 let x35 := d.1;
 let x36 := d.2.1;
 let x37 := d.2.2.1;
 loopP (zA5.l4 N) N (x35, x36, x37, ()) (
 fun d =>
 let x43 := d.1;
 some x43))
def zAJ.l1 {R : Type} (N : Nat) (d : (List Int × Int × Int × Unit) × Int × Unit) (kn : (List Int × Int × Int × Unit) × Int × Unit → Option R) (kx : Int × Unit → Option R) : Option R :=
 let x10 := d.1;
 let x11 := d.2.1;
 bindO (
 ifB (pGt x11 0) (
 bindO (idx x10.1 (pSub .i64 x11 1)) fun y13 =>
 some (pNe y13 10)) (
 some false)) fun y12 =>
 ifB y12 (
 kn (x10, (pSub .i64 x11 1), ())) (
 kx (x11, ()))
def zAJ (N : Nat) (a0 : List (Int) × Int × Int × Unit) (a1 : Int) : Option (Int) :=
 loopP (zAJ.l1 N) N (a0, a1, ()) (
 fun d =>
 let x14 := d.1;
 some x14)
def zAU.l1 {R : Type} (N : Nat) (d : (List Int × Int × Int × Unit) × Int × Unit) (kn : (List Int × Int × Int × Unit) × Int × Unit → Option R) (kx : Int × Unit → Option R) : Option R :=
 let x12 := d.1;
 let x13 := d.2.1;
 bindO (zAN N x12.1) fun y14 =>
 bindO (
 ifB (pLt x13 y14) (
 bindO (idx x12.1 x13) fun y16 =>
 some (pNe y16 10)) (
 some false)) fun y15 =>
 ifB y15 (
 kn (x12, (pAdd .i64 x13 1), ())) (
 kx (x13, ()))
def zAU (N : Nat) (a0 : List (Int) × Int × Int × Unit) (a1 : Int) : Option (Int) :=
 loopP (zAU.l1 N) N (a0, a1, ()) (
 fun d =>
 let x17 := d.1;
 some x17)
def zAO.l3 {R : Type} (N : Nat) (d : List Int × Int × Int × List Int × Unit) (kn : List Int × Int × Int × List Int × Unit → Option R) (kx : List Int × Unit → Option R) : Option R :=
 let x19 := d.1;
 let x20 := d.2.1;
 let x21 := d.2.2.1;
 let x22 := d.2.2.2.1;
 ifB (pLt x21 x20) (
 bindO (A := List Int × Int × Int × List Int × Unit) (
 bindO (idx x19 x21) fun y23 =>
 ifB (pEq y23 10) (
 ifB (pFit x22 [(pAdd .i64 x21 1)]) (
 some (x19, x20, x21, (pApp x22 [(pAdd .i64 x21 1)]), ())) (
 none)) (
 some (x19, x20, x21, x22, ()))) (
 fun d =>
 let x24 := d.1;
 let x25 := d.2.1;
 let x26 := d.2.2.1;
 let x27 := d.2.2.2.1;
 kn (x24, x25, (pAdd .i64 x26 1), x27, ()))) (
 kx (x22, ()))
def zAO (N : Nat) (a0 : List (Int) × Int × Int × Unit) : Option (List Int) :=
 loopP (zAO.l3 N) N (a0.1, (pLen a0.1), 0, [0], ()) (
 fun d =>
 let x28 := d.1;
 some x28)
def zA7.l2 {R : Type} (N : Nat) (d : List Int × Int × Int × Int × Unit) (kn : List Int × Int × Int × Int × Unit → Option R) (kx : (Unit) ⊕ (Int × Unit) → Option R) : Option R :=
 let x12 := d.1;
 let x13 := d.2.1;
 let x14 := d.2.2.1;
 let x15 := d.2.2.2.1;
 ifB (pLt x15 x14) (
 bindO (idx x12 x15) fun y16 =>
 ifB (pEq x13 y16) (
 kx (.inr (x15, ()))) (
 kn (x12, x13, x14, (pAdd .i64 x15 1), ()))) (
 kx (.inl (())))
def zA7 (N : Nat) (a0 : List (Int)) (a1 : Int) : Option (Int) :=
 loopP (zA7.l2 N) N (a0, a1, (pLen a0), 0, ()) (
 onSum (fun d =>
 some (-1)) (
 fun d =>
 let x17 := d.1;
 some x17))
def zBX (N : Nat) (a0 : List (Int) × Int × Int × Unit) (a1 : Int) : Option (Int × Int × Unit) :=
 bindO (zAJ N a0 a1) fun y3 =>
 bindO (zAO N a0) fun y4 =>
 bindO (zA7 N y4 y3) fun y5 =>
 some (y5, ((pSub .i64 a1 y3), ()))
def zBT (N : Nat) (a0 : List (Int) × Int × Int × Unit) (a1 : Int × Int × Unit) : Option (Int) :=
 bindO (zAO N a0) fun y5 =>
 bindO (zAN N y5) fun y6 =>
 bindO (idx y5 (pMin (pMax a1.1 0) (pSub .i64 y6 1))) fun y7 =>
 bindO (idx y5 (pMin (pMax a1.1 0) (pSub .i64 y6 1))) fun y8 =>
 bindO (zAU N a0 y8) fun y9 =>
 some (pAdd .i64 y8 (pMin (pMax a1.2.1 0) (pSub .i64 y9 y8)))
def zAS.l26 {R : Type} (N : Nat) (d : (List Int × Int × Int × Unit) × Int × Int × Int × Int × Unit) (kn : (List Int × Int × Int × Unit) × Int × Int × Int × Int × Unit → Option R) (kx : (Int × Unit) ⊕ (Int × Unit) → Option R) : Option R :=
 let x41 := d.1;
 let x42 := d.2.1;
 let x43 := d.2.2.1;
 let x44 := d.2.2.2.1;
 let x45 := d.2.2.2.2.1;
 ifB (pLt x45 x44) (
 bindO (idx x41.1 x45) fun y46 =>
 ifB (pEq y46 x43) (
 kx (.inr (x45, ()))) (
 kn (x41, x42, x43, x44, (pAdd .i64 x45 1), ()))) (
 kx (.inl (x42, ())))
def zAS (N : Nat) (a0 : List (Int) × Int × Int × Unit) (a1 : Int) (a2 : Int) (a3 : Int) : Option (Int) :=
 bindO (zAN N a0.1) fun y28 =>
 ifB (pEq a2 1) (
 some (pMax (pSub .i64 a1 1) 0)) (
 ifB (pEq a2 2) (
 some (pMin (pAdd .i64 a1 1) y28)) (
 ifB (pEq a2 3) (
 bindO (zA6 N a0 a1) fun y29 =>
 some y29) (
 ifB (pEq a2 4) (
 bindO (zA5 N a0 a1) fun y30 =>
 some y30) (
 ifB (pEq a2 5) (
 bindO (zAJ N a0 a1) fun y31 =>
 some y31) (
 ifB (pEq a2 6) (
 bindO (zAU N a0 a1) fun y32 =>
 some y32) (
 ifB (pEq a2 7) (
 bindO (zBX N a0 a1) fun y33 =>
 bindO (zBX N a0 a0.2.1) fun y34 =>
 ifB (pEq a2 8) (
 bindO (zBT N a0 ((pAdd .i64 (pSub .i64 y33.1 1) 2), (y34.2.1, ()))) fun y35 =>
 some y35) (
 bindO (zBT N a0 ((pSub .i64 y33.1 1), (y34.2.1, ()))) fun y36 =>
 some y36)) (
 ifB (pEq a2 8) (
 bindO (zBX N a0 a1) fun y37 =>
 bindO (zBX N a0 a0.2.1) fun y38 =>
 ifB (pEq a2 8) (
 bindO (zBT N a0 ((pAdd .i64 (pSub .i64 y37.1 1) 2), (y38.2.1, ()))) fun y39 =>
 some y39) (
 bindO (zBT N a0 ((pSub .i64 y37.1 1), (y38.2.1, ()))) fun y40 =>
 some y40)) (
 ifB (pEq a2 9) (
 some 0) (
 ifB (pEq a2 10) (
 some y28) (
 loopP (zAS.l26 N) N (a0, a1, a3, y28, (pAdd .i64 a1 1), ()) (
 onSum (fun d =>
 let x47 := d.1;
 some x47) (
 fun d =>
 let x48 := d.1;
 some x48))))))))))))
def zAM.l3 {R : Type} (N : Nat) (d : (List Int × Int × Int × Unit) × Int × Int × Int × Int × Int × Unit) (kn : (List Int × Int × Int × Unit) × Int × Int × Int × Int × Int × Unit → Option R) (kx : Int × Unit → Option R) : Option R :=
 let x16 := d.1;
 let x17 := d.2.1;
 let x18 := d.2.2.1;
 let x19 := d.2.2.2.1;
 let x20 := d.2.2.2.2.1;
 let x21 := d.2.2.2.2.2.1;
 ifB (pLt x21 x20) (
 bindO (zAS N x16 x19 x17 x18) fun y22 =>
 ifB (pEq y22 x19) (
 kx (x19, ())) (
 kn (x16, x17, x18, y22, x20, (pAdd .i64 x21 1), ()))) (
 kx (x19, ()))
end Go.AE.F
end
