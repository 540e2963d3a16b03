/- Functions as they are printed out of the program: plain Lean, nothing is claimed here. -/
import Derived.Test.YtcgbobehdjgjpaaGreatLViBackF4
noncomputable section
namespace Go.AE.F
open Go.AE
def zAE (N : Nat) (a0 : List (Int) × Int × Int × Int × Unit) : Option ((List (List Int) × Int × Unit) × List Int × Int × Int × Int × Unit) :=
 bindO (zAF N a0 4) fun y59 =>
 bindO (zAQ N y59.2 12) fun y60 =>
 ifB y60.1 (
 bindO (zAF N y60.2 3) fun y61 =>
 loopP (zAE.l5 N) N ((pAdd .i64 9 y61.1), y61.2, ([], (0, ())), ([], (0, ())), ()) (
 fun d =>
 let x68 := d.1;
 let x69 := d.2.1;
 let x70 := d.2.2.1;
 ifB (pGt (pLen x70.1) 0) (
 bindO (zAF N x68 (pLen x70.1)) fun y71 =>
 bindO (zAQ N y71.2 20) fun y72 =>
 ifB y72.1 (
 bindO (zAF N y72.2 3) fun y73 =>
 ifB (pEq y73.1 0) (
 bindO (zAF N y73.2 2) fun y74 =>
 bindO (idx [(-1), (pLen x70.1)] y74.1) fun y75 =>
 bindO (idx [(-1), (pLen x70.1)] y74.1) fun y76 =>
 some ((x70.1, (y76, x70.2.2)), y74.2)) (
 ifB (pEq y73.1 1) (
 ifB (pFit x70.1 [[]]) (
 some (((pApp x70.1 [[]]), (y71.1, x70.2.2)), y73.2)) (
 none)) (
 bindO (zAF N y73.2 5) fun y77 =>
 bindO (zAD N y77.2 (pAdd .i64 297 y77.1)) fun y78 =>
 ifB (pFit x70.1 [y78.1]) (
 some (((pApp x70.1 [y78.1]), (y71.1, x70.2.2)), y78.2)) (
 none)))) (
 some ((x70.1, (y71.1, x70.2.2)), y72.2))) (
 bindO (zAQ N x68 20) fun y79 =>
 ifB y79.1 (
 bindO (zAF N y79.2 3) fun y80 =>
 ifB (pEq y80.1 0) (
 bindO (zAF N y80.2 2) fun y81 =>
 bindO (idx [(-1), (pLen x70.1)] y81.1) fun y82 =>
 bindO (idx [(-1), (pLen x70.1)] y81.1) fun y83 =>
 some ((x70.1, (y83, x70.2.2)), y81.2)) (
 ifB (pEq y80.1 1) (
 ifB (pFit x70.1 [[]]) (
 some (((pApp x70.1 [[]]), x70.2), y80.2)) (
 none)) (
 bindO (zAF N y80.2 5) fun y84 =>
 bindO (zAD N y84.2 (pAdd .i64 297 y84.1)) fun y85 =>
 ifB (pFit x70.1 [y85.1]) (
 some (((pApp x70.1 [y85.1]), x70.2), y85.2)) (
 none)))) (
 some (x70, y79.2))))) (
 loopP (zAE.l5 N) N (y59.1, y60.2, ([], (0, ())), ([], (0, ())), ()) (
 fun d =>
 let x92 := d.1;
 let x93 := d.2.1;
 let x94 := d.2.2.1;
 ifB (pGt (pLen x94.1) 0) (
 bindO (zAF N x92 (pLen x94.1)) fun y95 =>
 bindO (zAQ N y95.2 20) fun y96 =>
 ifB y96.1 (
 bindO (zAF N y96.2 3) fun y97 =>
 ifB (pEq y97.1 0) (
 bindO (zAF N y97.2 2) fun y98 =>
 bindO (idx [(-1), (pLen x94.1)] y98.1) fun y99 =>
 bindO (idx [(-1), (pLen x94.1)] y98.1) fun y100 =>
 some ((x94.1, (y100, x94.2.2)), y98.2)) (
 ifB (pEq y97.1 1) (
 ifB (pFit x94.1 [[]]) (
 some (((pApp x94.1 [[]]), (y95.1, x94.2.2)), y97.2)) (
 none)) (
 bindO (zAF N y97.2 5) fun y101 =>
 bindO (zAD N y101.2 (pAdd .i64 297 y101.1)) fun y102 =>
 ifB (pFit x94.1 [y102.1]) (
 some (((pApp x94.1 [y102.1]), (y95.1, x94.2.2)), y102.2)) (
 none)))) (
 some ((x94.1, (y95.1, x94.2.2)), y96.2))) (
 bindO (zAQ N x92 20) fun y103 =>
 ifB y103.1 (
 bindO (zAF N y103.2 3) fun y104 =>
 ifB (pEq y104.1 0) (
 bindO (zAF N y104.2 2) fun y105 =>
 bindO (idx [(-1), (pLen x94.1)] y105.1) fun y106 =>
 bindO (idx [(-1), (pLen x94.1)] y105.1) fun y107 =>
 some ((x94.1, (y107, x94.2.2)), y105.2)) (
 ifB (pEq y104.1 1) (
 ifB (pFit x94.1 [[]]) (
 some (((pApp x94.1 [[]]), x94.2), y104.2)) (
 none)) (
 bindO (zAF N y104.2 5) fun y108 =>
 bindO (zAD N y108.2 (pAdd .i64 297 y108.1)) fun y109 =>
 ifB (pFit x94.1 [y109.1]) (
 some (((pApp x94.1 [y109.1]), x94.2), y109.2)) (
 none)))) (
 some (x94, y103.2)))))
def zB7 (N : Nat) (a0 : List (List (Int)) × Int × Unit) : Option (Bool) :=
 bindO (zAW N a0.1 10) fun y5 =>
 bindO (
 ifB y5 (
 some (pGe a0.2.1 0)) (
 some false)) fun y6 =>
 bindO (
 ifB y6 (
 bindO (
 ifB (pLt a0.2.1 (pLen a0.1)) (
 some true) (
 bindO (
 ifB (pEq a0.2.1 0) (
 some (pEq (pLen a0.1) 0)) (
 some false)) fun y9 =>
 some y9)) fun y8 =>
 some y8) (
 some false)) fun y7 =>
 some y7
def zCM (N : Nat) (a0 : List (List (Int)) × Int × Unit) : Option (List Int) :=
 bindO (zB7 N a0) fun y4 =>
 bindO (
 ifB (pNot y4) (
 some true) (
 some (pEq (pLen a0.1) 0))) fun y5 =>
 ifB y5 (
 some []) (
 bindO (idx a0.1 a0.2.1) fun y6 =>
 bindO (zBD N y6) fun y7 =>
 some y7)
def zC9 (N : Nat) (a0 : List (List (Int)) × Int × Unit) (a1 : List (Int) × Int × Int × Unit) : Option ((List Int × Int × Int × Unit) × Int × Int × Int × Unit) :=
 bindO (zB7 N a0) fun y5 =>
 bindO (
 ifB (pNot y5) (
 some true) (
 bindO (zB6 N a1) fun y7 =>
 some (pNot y7))) fun y6 =>
 ifB y6 (
 some (([], (0, (0, ()))), (0, (0, (1, ()))))) (
 ifB (pEq (pLen a0.1) 0) (
 some (([], (0, (0, ()))), (0, (0, (4, ()))))) (
 bindO (zCM N a0) fun y8 =>
 bindO (zC2 N a1 y8) fun y9 =>
 ifB (pNe y9.2.2.1 0) (
 some (([], (0, (0, ()))), (0, (0, (y9.2.2.1, ()))))) (
 some (y9.1, (a1.2.1, ((pAdd .i64 a1.2.1 (pLen y8)), (0, ())))))))
def zBG (N : Nat) (a0 : List (List (Int)) × Int × Unit) : Option (Bool) :=
 ifB (pLe (pLen a0.1) 10) (
 bindO (zCA N a0.1) fun y3 =>
 ifB y3 (
 bindO (zBO N a0.1) fun y4 =>
 bindO (zBH N a0.2.1 0 (pMax (pSub .i64 y4 1) 0)) fun y5 =>
 some y5) (
 some false)) (
 some false)
def zCB (N : Nat) (a0 : List (List (Int)) × Int × Unit) (a1 : List (Int) × Int × Int × Unit) : Option (Int) :=
 bindO (zBG N a0) fun y6 =>
 bindO (
 ifB (pNot y6) (
 some true) (
 bindO (zBU N a1) fun y8 =>
 some (pNot y8))) fun y7 =>
 ifB y7 (
 some 1) (
 ifB (pEq (pLen a0.1) 0) (
 some 4) (
 some 0))
def zC8 (N : Nat) (a0 : List (List (Int)) × Int × Unit) (a1 : List (Int) × Int × Int × Unit) : Option ((List Int × Int × Int × Unit) × Int × Int × Int × Unit) :=
 bindO (zCB N a0 a1) fun y4 =>
 ifB (pNe y4 0) (
 some (([], (0, (0, ()))), (0, (0, (y4, ()))))) (
 bindO (idx a0.1 a0.2.1) fun y5 =>
 bindO (zC0 N a1 a1.2.1 a1.2.1 y5) fun y6 =>
 ifB (pNe y6.2.2.1 0) (
 some (([], (0, (0, ()))), (0, (0, (y6.2.2.1, ()))))) (
 bindO (zAN N y5) fun y7 =>
 some (y6.1, (a1.2.1, ((pAdd .i64 a1.2.1 y7), (0, ()))))))
def zCL (N : Nat) (a0 : List (List (Int)) × Int × Unit) : Option (List Int) :=
 bindO (zBG N a0) fun y4 =>
 bindO (
 ifB (pNot y4) (
 some true) (
 some (pEq (pLen a0.1) 0))) fun y5 =>
 ifB y5 (
 some []) (
 bindO (idx a0.1 a0.2.1) fun y6 =>
 bindO (zA8 N y6) fun y7 =>
 some y7)
def zAL.l3 {R : Type} (N : Nat) (d : List (List Int) × Int × List (List Int) × Unit) (kn : List (List Int) × Int × List (List Int) × Unit → Option R) (kx : List (List Int) × Unit → Option R) : Option R :=
 let x13 := d.1;
 let x14 := d.2.1;
 let x15 := d.2.2.1;
 ifB (pLt x14 (pLen x13)) (
 bindO (idx x13 x14) fun y16 =>
 bindO (zBD N y16) fun y17 =>
 ifB (pFit x15 [y17]) (
 kn (x13, (pAdd .i64 x14 1), (pApp x15 [y17]), ())) (
 none)) (
 kx (x15, ()))
def zAL (N : Nat) (a0 : List (List (Int))) : Option (List (List Int)) :=
 loopP (zAL.l3 N) N (a0, 0, [], ()) (
 fun d =>
 let x18 := d.1;
 some x18)
def zBN (N : Nat) (a0 : List (List (Int)) × Int × Unit) : Option (List (List Int) × Int × Unit) :=
 bindO (zAL N a0.1) fun y1 =>
 some (y1, (a0.2.1, ()))
def zCG (N : Nat) (a0 : List (List (Int)) × Int × Unit) : Option (List (List Int) × Int × Unit) :=
 bindO (zAT N a0.1) fun y1 =>
 some (y1, (a0.2.1, ()))
def zBW (N : Nat) (a0 : List (Int) × Int × Int × Unit) : Option (List Int × Int × Int × Unit) :=
 bindO (zBD N a0.1) fun y1 =>
 some (y1, a0.2)
def zBZ (N : Nat) (a0 : List (Int) × Int × Int × Unit) (a1 : Int) (a2 : Int) : Option ((List Int × Int × Int × Unit) × List Int × Int × Unit) :=
 bindO (zBA N a0 a1 a2 []) fun y1 =>
 some y1
def zCD (N : Nat) (a0 : List (List (Int)) × Int × Unit) (a1 : List (Int)) : Option (List (List Int) × Int × Unit) :=
 ifB (pGt (pLen a1) 400) (
 some ([], (0, ()))) (
 bindO (zB7 N a0) fun y7 =>
 bindO (
 ifB (pNot y7) (
 some true) (
 bindO (zAH N a1) fun y9 =>
 some (pNot y9))) fun y8 =>
 bindO (
 ifB y8 (
 some true) (
 some (pEq (pLen a1) 0))) fun y10 =>
 ifB y10 (
 bindO (zBN N a0) fun y11 =>
 some y11) (
 bindO (zBD N a1) fun y12 =>
 bindO (zAL N a0.1) fun y13 =>
 ifB (pFit [y12] y13) (
 ifB (pGt (pLen (pApp [y12] y13)) 10) (
 ifB (pLe 0 0) (
 ifB (pLe 0 10) (
 ifB (pLe 10 (pLen (pApp [y12] y13))) (
 some ((sub (pApp [y12] y13) 0 10), (0, ()))) (
 none)) (
 none)) (
 none)) (
 some ((pApp [y12] y13), (0, ())))) (
 none)))
def zBJ (N : Nat) (a0 : List (List (Int))) (a1 : Int) (a2 : List (List (Int))) : Option (List (List (Int))) :=
 ifB (pLe 0 a1) (ifB (pLe a1 (pLen a0)) (ifB (pFit a0 a2) (some (pApp (pApp (sub a0 0 a1) a2) (sub a0 a1 (pLen a0)))) none) none) none
def zCR (N : Nat) (a0 : List (List (Int)) × Int × Unit) (a1 : List (Int)) : Option (List (List Int) × Int × Unit) :=
 bindO (zAT N a0.1) fun y3 =>
 bindO (zA8 N a1) fun y4 =>
 bindO (zBJ N y3 0 [y4]) fun y5 =>
 ifB (pLe 0 0) (
 ifB (pLe 0 (pMin (pLen y5) 10)) (
 ifB (pLe (pMin (pLen y5) 10) (pLen y5)) (
 some ((sub y5 0 (pMin (pLen y5) 10)), (0, ()))) (
 none)) (
 none)) (
 none)
def zB4.l5 {R : Type} (N : Nat) (d : Int × Bool × ByteArray × Unit) (kn : Int × Bool × ByteArray × Unit → Option R) (kx : Bool × ByteArray × Unit → Option R) : Option R :=
 let x10 := d.1;
 let x11 := d.2.1;
 let x12 := d.2.2.1;
 ifB (pNe x10 0) (
 ifB (pEq 10 0) (
 none) (
 ifB (pLt (pRem x10 10) 0) (
 ifB (pFitS (bytesOf [(pConv .u8 (pAdd .i64 48 (pSub .i64 0 (pRem x10 10))))]) x12) (
 ifB (pEq 10 0) (
 none) (
 kn ((pQuo .i64 x10 10), x11, (pCat (bytesOf [(pConv .u8 (pAdd .i64 48 (pSub .i64 0 (pRem x10 10))))]) x12), ()))) (
 none)) (
 ifB (pFitS (bytesOf [(pConv .u8 (pAdd .i64 48 (pRem x10 10)))]) x12) (
 ifB (pEq 10 0) (
 none) (
 kn ((pQuo .i64 x10 10), x11, (pCat (bytesOf [(pConv .u8 (pAdd .i64 48 (pRem x10 10)))]) x12), ()))) (
 none)))) (
 kx (x11, x12, ()))
def zB4 (N : Nat) (a0 : Int) : Option (ByteArray) :=
 ifB (pEq a0 0) (
 some (ByteArray.mk #[48])) (
 loopP (zB4.l5 N) N (a0, (pLt a0 0), (ByteArray.mk #[]), ()) (
 fun d =>
 let x13 := d.1;
 let x14 := d.2.1;
 ifB x13 (
 ifB (pFitS (ByteArray.mk #[45]) x14) (
 some (pCat (ByteArray.mk #[45]) x14)) (
 none)) (
 some x14)))
end Go.AE.F
end
