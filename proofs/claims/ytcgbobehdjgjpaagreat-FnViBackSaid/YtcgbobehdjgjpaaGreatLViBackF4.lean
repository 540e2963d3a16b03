/- Functions as they are printed out of the program: plain Lean, nothing is claimed here. -/
import Derived.Test.YtcgbobehdjgjpaaGreatLViBackF3
noncomputable section
namespace Go.AE.F
open Go.AE
def zAM (N : Nat) (a0 : List (Int) × Int × Int × Unit) (a1 : Int) (a2 : Int) (a3 : Int) : Option (Int) :=
 loopP (zAM.l3 N) N (a0, a1, a3, a0.2.1, a2, 0, ()) (
 fun d =>
 let x23 := d.1;
 some x23)
def zCU (N : Nat) (a0 : List (Int) × Int × Int × Unit) (a1 : Int) (a2 : Int) (a3 : Int) : Option (Int) :=
 bindO (zBU N a0) fun y6 =>
 bindO (
 ifB (pNot y6) (
 some true) (
 bindO (zBH N a1 1 11) fun y8 =>
 some (pNot y8))) fun y7 =>
 bindO (
 ifB y7 (
 some true) (
 bindO (zBH N a2 0 1000) fun y10 =>
 some (pNot y10))) fun y9 =>
 ifB y9 (
 some (-1)) (
 bindO (zAM N a0 a1 a2 a3) fun y11 =>
 some y11)
def zBF (N : Nat) (a0 : List (Int) × Int × Int × Int × Unit) : Option ((List Int × Int × Int × Unit) × List Int × Int × Int × Int × Unit) :=
 bindO (zAF N a0 (pAdd .i64 14 (pMul .i64 2 a0.2.2.2.1))) fun y25 =>
 bindO (zAD N y25.2 y25.1) fun y26 =>
 bindO (zAQ N y26.2 50) fun y27 =>
 ifB y27.1 (
 bindO (zAF N y27.2 4) fun y28 =>
 bindO (zAD N y28.2 (pAdd .i64 298 y28.1)) fun y29 =>
 bindO (zAF N y29.2 (pAdd .i64 (pLen y29.1) 1)) fun y30 =>
 bindO (zAF N y30.2 (pAdd .i64 (pLen y29.1) 1)) fun y31 =>
 bindO (zAQ N y31.2 15) fun y32 =>
 ifB y32.1 (
 bindO (zAF N y32.2 3) fun y33 =>
 ifB (pEq y33.1 0) (
 bindO (zAF N y33.2 2) fun y34 =>
 bindO (idx [(-1), (pAdd .i64 (pLen y29.1) 1)] y34.1) fun y35 =>
 bindO (idx [(-1), (pAdd .i64 (pLen y29.1) 1)] y34.1) fun y36 =>
 some ((y29.1, (y36, (y31.1, ()))), y34.2)) (
 ifB (pEq y33.1 1) (
 bindO (zAF N y33.2 2) fun y37 =>
 bindO (idx [(-1), (pAdd .i64 (pLen y29.1) 1)] y37.1) fun y38 =>
 bindO (idx [(-1), (pAdd .i64 (pLen y29.1) 1)] y37.1) fun y39 =>
 some ((y29.1, (y30.1, (y39, ()))), y37.2)) (
 ifB (pFit y29.1 [55296]) (
 some (((pApp y29.1 [55296]), (y30.1, (y31.1, ()))), y33.2)) (
 none)))) (
 some ((y29.1, (y30.1, (y31.1, ()))), y32.2))) (
 bindO (zAF N y27.2 (pAdd .i64 (pLen y26.1) 1)) fun y40 =>
 bindO (zAF N y40.2 (pAdd .i64 (pLen y26.1) 1)) fun y41 =>
 bindO (zAQ N y41.2 15) fun y42 =>
 ifB y42.1 (
 bindO (zAF N y42.2 3) fun y43 =>
 ifB (pEq y43.1 0) (
 bindO (zAF N y43.2 2) fun y44 =>
 bindO (idx [(-1), (pAdd .i64 (pLen y26.1) 1)] y44.1) fun y45 =>
 bindO (idx [(-1), (pAdd .i64 (pLen y26.1) 1)] y44.1) fun y46 =>
 some ((y26.1, (y46, (y41.1, ()))), y44.2)) (
 ifB (pEq y43.1 1) (
 bindO (zAF N y43.2 2) fun y47 =>
 bindO (idx [(-1), (pAdd .i64 (pLen y26.1) 1)] y47.1) fun y48 =>
 bindO (idx [(-1), (pAdd .i64 (pLen y26.1) 1)] y47.1) fun y49 =>
 some ((y26.1, (y40.1, (y49, ()))), y47.2)) (
 ifB (pFit y26.1 [55296]) (
 some (((pApp y26.1 [55296]), (y40.1, (y41.1, ()))), y43.2)) (
 none)))) (
 some ((y26.1, (y40.1, (y41.1, ()))), y42.2)))
def zCN (N : Nat) (a0 : List (Int) × Int × Int × Unit) : Option (List Int × Int × Int × Unit) :=
 bindO (zA8 N a0.1) fun y1 =>
 some (y1, (a0.2.1, (a0.2.2.1, ())))
def zC4 (N : Nat) (a0 : Int) (a1 : Int) (a2 : Int) (a3 : Int) : Option (Int) :=
 ifB (pLe a0 a1) (
 some a0) (
 ifB (pLt a0 a2) (
 some a1) (
 some (pAdd .i64 a0 a3)))
def zBA (N : Nat) (a0 : List (Int) × Int × Int × Unit) (a1 : Int) (a2 : Int) (a3 : List (Int)) : Option ((List Int × Int × Int × Unit) × List Int × Int × Unit) :=
 ifB (pGt (pLen a3) 400) (
 some (([], (0, (0, ()))), ([], (2, ())))) (
 bindO (zB6 N a0) fun y11 =>
 bindO (
 ifB (pNot y11) (
 some true) (
 bindO (zAH N a3) fun y13 =>
 some (pNot y13))) fun y12 =>
 ifB y12 (
 some (([], (0, (0, ()))), ([], (1, ())))) (
 bindO (
 ifB (pLt a1 0) (
 some true) (
 some (pGt a1 a2))) fun y14 =>
 bindO (
 ifB y14 (
 some true) (
 some (pGt a2 (pLen a0.1)))) fun y15 =>
 ifB y15 (
 some (([], (0, (0, ()))), ([], (8, ())))) (
 ifB (pGt (pAdd .i64 (pSub .i64 (pLen a0.1) (pSub .i64 a2 a1)) (pLen a3)) 300) (
 some (([], (0, (0, ()))), ([], (5, ())))) (
 bindO (zC4 N a0.2.1 a1 a2 (pSub .i64 (pLen a3) (pSub .i64 a2 a1))) fun y16 =>
 bindO (zC4 N a0.2.2.1 a1 a2 (pSub .i64 (pLen a3) (pSub .i64 a2 a1))) fun y17 =>
 ifB (pLe 0 0) (
 ifB (pLe 0 a1) (
 ifB (pLe a1 (pLen a0.1)) (
 ifB (pLe 0 a2) (
 ifB (pLe a2 (pLen a0.1)) (
 ifB (pLe (pLen a0.1) (pLen a0.1)) (
 bindO (zBD N (sub a0.1 0 a1)) fun y18 =>
 ifB (pFit y18 a3) (
 ifB (pFit (pApp y18 a3) (sub a0.1 a2 (pLen a0.1))) (
 bindO (
 ifB (pEq a1 a2) (
 some (pEq a0.2.1 a1)) (
 some false)) fun y19 =>
 ifB y19 (
 ifB (pLe 0 a1) (
 ifB (pLe a1 a2) (
 ifB (pLe a2 (pLen a0.1)) (
 bindO (zBD N (sub a0.1 a1 a2)) fun y20 =>
 some (((pApp (pApp y18 a3) (sub a0.1 a2 (pLen a0.1))), ((pAdd .i64 a1 (pLen a3)), (y17, ()))), (y20, (0, ())))) (
 none)) (
 none)) (
 none)) (
 ifB (pLe 0 a1) (
 ifB (pLe a1 a2) (
 ifB (pLe a2 (pLen a0.1)) (
 bindO (zBD N (sub a0.1 a1 a2)) fun y21 =>
 some (((pApp (pApp y18 a3) (sub a0.1 a2 (pLen a0.1))), (y16, (y17, ()))), (y21, (0, ())))) (
 none)) (
 none)) (
 none))) (
 none)) (
 none)) (
 none)) (
 none)) (
 none)) (
 none)) (
 none)) (
 none)))))
def zC2 (N : Nat) (a0 : List (Int) × Int × Int × Unit) (a1 : List (Int)) : Option ((List Int × Int × Int × Unit) × List Int × Int × Unit) :=
 bindO (zBA N a0 a0.2.1 a0.2.1 a1) fun y1 =>
 some y1
def zB0 (N : Nat) (a0 : List (Int)) (a1 : Int) : Option (List Int) :=
 ifB (pLt a1 0) (
 none) (
 ifB (pGt (pSub .i64 a1 (pSub .i64 0 (pLen ([] : List Int)))) 0) (
 ifB (pEq 0 0) (
 ifB (pEq 0 0) (
 ifB (pLe 0 (pSub .i64 a1 (pSub .i64 0 (pLen ([] : List Int))))) (
 ifB (pLe (pSub .i64 a1 (pSub .i64 0 (pLen ([] : List Int)))) 68719476736) (
 ifB (pLe 0 0) (
 ifB (pLe 0 (pLen ([] : List Int))) (
 ifB (pLe (pLen ([] : List Int)) (pLen (pRepl (pSub .i64 a1 (pSub .i64 0 (pLen ([] : List Int)))) (0 : Int)))) (
 some (sub (pRepl (pSub .i64 a1 (pSub .i64 0 (pLen ([] : List Int)))) (0 : Int)) 0 (pLen ([] : List Int)))) (
 none)) (
 none)) (
 none)) (
 none)) (
 none)) (
 none)) (
 none)) (
 some []))
def zA3.l3 {R : Type} (N : Nat) (d : List (List Int) × Int × List (List Int) × Int × Int × Unit) (kn : List (List Int) × Int × List (List Int) × Int × Int × Unit → Option R) (kx : List (List Int) × Int × Unit → Option R) : Option R :=
 let x28 := d.1;
 let x29 := d.2.1;
 let x30 := d.2.2.1;
 let x31 := d.2.2.2.1;
 let x32 := d.2.2.2.2.1;
 ifB (pLt x32 x31) (
 bindO (idx x30 x32) fun y33 =>
 ifB (pLt (pAdd .i64 x29 (pLen y33)) 0) (
 none) (
 kn (x28, (pAdd .i64 x29 (pLen y33)), x30, x31, (pAdd .i64 x32 1), ()))) (
 kx (x28, x29, ()))
def zA3.l11 {R : Type} (N : Nat) (d : List (List Int) × Int × Int × List Int × Unit) (kn : List (List Int) × Int × Int × List Int × Unit → Option R) (kx : List Int × Unit → Option R) : Option R :=
 let x37 := d.1;
 let x38 := d.2.1;
 let x39 := d.2.2.1;
 let x40 := d.2.2.2.1;
 ifB (pLt x39 x38) (
 bindO (idx x37 x39) fun y41 =>
 ifB (pFit x40 y41) (
 kn (x37, x38, (pAdd .i64 x39 1), (pApp x40 y41), ())) (
 none)) (
 kx (x40, ()))
def zA3 (N : Nat) (a0 : List (List (Int))) : Option (List Int) :=
 loopP (zA3.l3 N) N (a0, 0, a0, (pLen a0), 0, ()) (
 fun d =>
 let x34 := d.1;
 let x35 := d.2.1;
 bindO (zB0 N [] x35) fun y36 =>
 loopP (zA3.l11 N) N (x34, (pLen x34), 0, y36, ()) (
 fun d =>
 let x42 := d.1;
 some x42))
def zBS (N : Nat) (a0 : Int) (a1 : Int) (a2 : Int) (a3 : Int) : Option (Int) :=
 ifB (pLe a0 a1) (
 some a0) (
 ifB (pLt a0 a2) (
 some a1) (
 some (pAdd .i64 a0 a3)))
def zC0 (N : Nat) (a0 : List (Int) × Int × Int × Unit) (a1 : Int) (a2 : Int) (a3 : List (Int)) : Option ((List Int × Int × Int × Unit) × List Int × Int × Unit) :=
 ifB (pLt a1 0) (
 some (([], (0, (0, ()))), ([], (8, ())))) (
 ifB (pGt a1 a2) (
 some (([], (0, (0, ()))), ([], (8, ())))) (
 bindO (zAN N a0.1) fun y10 =>
 ifB (pGt a2 y10) (
 some (([], (0, (0, ()))), ([], (8, ())))) (
 bindO (zAN N a3) fun y11 =>
 bindO (zAN N a0.1) fun y12 =>
 ifB (pGt (pAdd .i64 y12 (pSub .i64 y11 (pSub .i64 a2 a1))) 300) (
 some (([], (0, (0, ()))), ([], (5, ())))) (
 ifB (pLe 0 0) (
 ifB (pLe 0 a1) (
 ifB (pLe a1 (pLen a0.1)) (
 ifB (pLe 0 a2) (
 ifB (pLe a2 (pLen a0.1)) (
 ifB (pLe (pLen a0.1) (pLen a0.1)) (
 bindO (zA3 N [(sub a0.1 0 a1), a3, (sub a0.1 a2 (pLen a0.1))]) fun y13 =>
 bindO (zBS N a0.2.1 a1 a2 (pSub .i64 y11 (pSub .i64 a2 a1))) fun y14 =>
 bindO (zBS N a0.2.2.1 a1 a2 (pSub .i64 y11 (pSub .i64 a2 a1))) fun y15 =>
 bindO (
 ifB (pEq a1 a2) (
 some (pEq a0.2.1 a1)) (
 some false)) fun y16 =>
 ifB y16 (
 bindO (zAN N a3) fun y17 =>
 ifB (pLe 0 a1) (
 ifB (pLe a1 a2) (
 ifB (pLe a2 (pLen a0.1)) (
 bindO (zA8 N (sub a0.1 a1 a2)) fun y18 =>
 some ((y13, ((pAdd .i64 a1 y17), (y15, ()))), (y18, (0, ())))) (
 none)) (
 none)) (
 none)) (
 ifB (pLe 0 a1) (
 ifB (pLe a1 a2) (
 ifB (pLe a2 (pLen a0.1)) (
 bindO (zA8 N (sub a0.1 a1 a2)) fun y19 =>
 some ((y13, (y14, (y15, ()))), (y19, (0, ())))) (
 none)) (
 none)) (
 none))) (
 none)) (
 none)) (
 none)) (
 none)) (
 none)) (
 none)))))
def zAE.l5 {R : Type} (N : Nat) (d : Int × (List Int × Int × Int × Int × Unit) × (List (List Int) × Int × Unit) × (List (List Int) × Int × Unit) × Unit) (kn : Int × (List Int × Int × Int × Int × Unit) × (List (List Int) × Int × Unit) × (List (List Int) × Int × Unit) × Unit → Option R) (kx : (List Int × Int × Int × Int × Unit) × (List (List Int) × Int × Unit) × (List (List Int) × Int × Unit) × Unit → Option R) : Option R :=
 let x62 := d.1;
 let x63 := d.2.1;
 let x64 := d.2.2.1;
 let x65 := d.2.2.2.1;
 ifB (pGt x62 0) (
 bindO (zAF N x63 5) fun y66 =>
 bindO (zAD N y66.2 (pAdd .i64 1 y66.1)) fun y67 =>
 ifB (pFit x65.1 [y67.1]) (
 kn ((pSub .i64 x62 1), y67.2, x64, ((pApp x65.1 [y67.1]), x65.2), ())) (
 none)) (
 kx (x63, x64, x65, ()))
end Go.AE.F
end
