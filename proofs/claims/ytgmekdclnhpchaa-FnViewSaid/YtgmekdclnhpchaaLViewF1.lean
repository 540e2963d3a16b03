/- Functions as they are printed out of the program: plain Lean, nothing is claimed here. -/
import Derived.Test.YtgmekdclnhpchaaA5
noncomputable section
namespace Go.AE.F
open Go.AE
def zB7 (N : Nat) (a0 : Int) : Option (Bool) :=
 bindO (
 ifB (pGe a0 0) (
 some (pLe a0 1114111)) (
 some false)) fun y3 =>
 bindO (
 ifB y3 (
 bindO (
 ifB (pGe a0 55296) (
 some (pLe a0 57343)) (
 some false)) fun y5 =>
 some (pNot y5)) (
 some false)) fun y4 =>
 some y4
def zB3 (N : Nat) (a0 : List (Int)) : Option (Int) :=
 some (pLen a0)
def zAI (N : Nat) (a0 : Int) (a1 : Int) (a2 : Int) : Option (Bool) :=
 bindO (
 ifB (pLe a1 a0) (
 some (pLe a0 a2)) (
 some false)) fun y1 =>
 some y1
def zB8 (N : Nat) (a0 : Int) : Option (Bool) :=
 bindO (zAI N a0 0 1114111) fun y3 =>
 bindO (
 ifB y3 (
 bindO (zAI N a0 55296 57343) fun y5 =>
 some (pNot y5)) (
 some false)) fun y4 =>
 some y4
def zA7.l4 {R : Type} (N : Nat) (d : List Int × Int × Unit) (kn : List Int × Int × Unit → Option R) (kx : (Unit) ⊕ (Bool × Unit) → Option R) : Option R :=
 let x31 := d.1;
 let x32 := d.2.1;
 ifB (pLt x32 (pLen x31)) (
 bindO (idx x31 x32) fun y35 =>
 bindO (zB7 N y35) fun y36 =>
 ifB (pNot y36) (
 kx (.inr (false, ()))) (
 kn (x31, (pAdd .i64 x32 1), ()))) (
 kx (.inl (())))
def zA7 (N : Nat) (a0 : List (Int)) : Option (Bool) :=
 ifB (pGt (pLen a0) 300) (
 some false) (
 loopP (zA7.l4 N) N (a0, 0, ()) (
 onSum (fun d =>
 some true) (
 fun d =>
 let x37 := d.1;
 some x37)))
def zBC (N : Nat) (a0 : List (Int) × Int × Int × Unit) : Option (Bool) :=
 bindO (zA7 N a0.1) fun y5 =>
 bindO (
 ifB y5 (
 some (pGe a0.2.1 0)) (
 some false)) fun y6 =>
 bindO (
 ifB y6 (
 some (pLe a0.2.1 (pLen a0.1))) (
 some false)) fun y7 =>
 bindO (
 ifB y7 (
 some (pGe a0.2.2.1 0)) (
 some false)) fun y8 =>
 bindO (
 ifB y8 (
 some (pLe a0.2.2.1 (pLen a0.1))) (
 some false)) fun y9 =>
 some y9
def zBH (N : Nat) (a0 : List (Int)) : Option (List Int) :=
 ifB (pFit [] a0) (
 some (pApp [] a0)) (
 none)
def zAU (N : Nat) (a0 : Int) : Option (Bool) :=
 bindO (zB8 N a0) fun y1 =>
 some (pNot y1)
def zA1.l2 {R : Type} (N : Nat) (d : List Int × Int × Int × Unit) (kn : List Int × Int × Int × Unit → Option R) (kx : (Unit) ⊕ (Int × Unit) → Option R) : Option R :=
 let x36 := d.1;
 let x37 := d.2.1;
 let x38 := d.2.2.1;
 ifB (pLt x38 x37) (
 bindO (idx x36 x38) fun y41 =>
 bindO (zAU N y41) fun y42 =>
 ifB y42 (
 kx (.inr (x38, ()))) (
 kn (x36, x37, (pAdd .i64 x38 1), ()))) (
 kx (.inl (())))
def zA1 (N : Nat) (a0 : List (Int)) : Option (Int) :=
 loopP (zA1.l2 N) N (a0, (pLen a0), 0, ()) (
 onSum (fun d =>
 some (-1)) (
 fun d =>
 let x43 := d.1;
 some x43))
def zA3 (N : Nat) (a0 : List (Int)) : Option (Bool) :=
 bindO (zA1 N a0) fun y1 =>
 some (pGe y1 0)
def zAW (N : Nat) (a0 : List (Int)) : Option (Bool) :=
 bindO (
 ifB (pLe (pLen a0) 300) (
 bindO (zA3 N a0) fun y3 =>
 some (pNot y3)) (
 some false)) fun y2 =>
 some y2
def zAT (N : Nat) (a0 : List (Int) × Int × Int × Unit) (a1 : Int) : Option (Bool) :=
 bindO (zB3 N a0.1) fun y2 =>
 bindO (zAI N a1 0 y2) fun y3 =>
 some y3
def zBI (N : Nat) (a0 : List (Int) × Int × Int × Unit) : Option (Bool) :=
 bindO (zAW N a0.1) fun y5 =>
 bindO (
 ifB y5 (
 bindO (zAT N a0 a0.2.1) fun y7 =>
 some y7) (
 some false)) fun y6 =>
 bindO (
 ifB y6 (
 bindO (zAT N a0 a0.2.2.1) fun y9 =>
 some y9) (
 some false)) fun y8 =>
 some y8
def zBQ (N : Nat) (a0 : Int) : Option (Bool) :=
 some (pGt a0 400)
def zA2.l4 {R : Type} (N : Nat) (d : List Int × List Int × Int × Int × Unit) (kn : List Int × List Int × Int × Int × Unit → Option R) (kx : (Unit) ⊕ (Bool × Unit) → Option R) : Option R :=
 let x41 := d.1;
 let x42 := d.2.1;
 let x43 := d.2.2.1;
 let x44 := d.2.2.2.1;
 ifB (pLt x44 x43) (
 bindO (idx x41 x44) fun y47 =>
 bindO (idx x42 x44) fun y48 =>
 ifB (pNe y47 y48) (
 kx (.inr (false, ()))) (
 kn (x41, x42, x43, (pAdd .i64 x44 1), ()))) (
 kx (.inl (())))
def zA2 (N : Nat) (a0 : List (Int)) (a1 : List (Int)) : Option (Bool) :=
 ifB (pNe (pLen a0) (pLen a1)) (
 some false) (
 loopP (zA2.l4 N) N (a0, a1, (pLen a0), 0, ()) (
 onSum (fun d =>
 some true) (
 fun d =>
 let x49 := d.1;
 some x49)))
def zAE.l3 {R : Type} (N : Nat) (d : List Int × Int × (List Int × Int × Int × Int × Unit) × Unit) (kn : List Int × Int × (List Int × Int × Int × Int × Unit) × Unit → Option R) (kx : List Int × (List Int × Int × Int × Int × Unit) × Unit → Option R) : Option R :=
 let x13 := d.1;
 let x14 := d.2.1;
 let x15 := d.2.2.1;
 bindO (
 ifB (pLt x14 (pLen x13)) (
 some (pLt x14 64)) (
 some false)) fun y16 =>
 ifB y16 (
 bindO (idx x13 x14) fun y17 =>
 kn (x13, (pAdd .i64 x14 1), (x15.1, (x15.2.1, ((pMul .u64 (pXor .u64 x15.2.2.1 (pConv .u64 y17)) 1099511628211), x15.2.2.2))), ())) (
 kx (x13, x15, ()))
def zAE (N : Nat) (a0 : List (Int)) : Option (List Int × Int × Int × Int × Unit) :=
 loopP (zAE.l3 N) N (a0, 0, (a0, (0, (88172645463325252, (0, ())))), ()) (
 fun d =>
 let x18 := d.1;
 let x19 := d.2.1;
 ifB (pEq 20 0) (
 none) (
 ifB (pGt (pQuo .i64 (pLen x18) 20) 12) (
 some (x19.1, (x19.2.1, (x19.2.2.1, (12, x19.2.2.2.2))))) (
 some (x19.1, (x19.2.1, (x19.2.2.1, ((pQuo .i64 (pLen x18) 20), x19.2.2.2.2)))))))
def zAB (N : Nat) (a0 : List (Int) × Int × Int × Int × Unit) (a1 : Int) : Option (Int × List Int × Int × Int × Int × Unit) :=
 ifB (pLe a1 1) (
 some (0, a0)) (
 ifB (pLt a0.2.1 (pLen a0.1)) (
 bindO (idx a0.1 a0.2.1) fun y1 =>
 ifB (pLt 13 0) (
 none) (
 ifB (pLt 7 0) (
 none) (
 ifB (pLt 17 0) (
 none) (
 ifB (pLt 20 0) (
 none) (
 ifB (pEq (pConv .u64 a1) 0) (
 none) (
 some ((pConv .i64 (pRem (pAdd .u64 (pConv .u64 y1) (pShr .u64 (pXor .u64 (pXor .u64 (pXor .u64 a0.2.2.1 (pShl .u64 a0.2.2.1 13)) (pShr .u64 (pXor .u64 a0.2.2.1 (pShl .u64 a0.2.2.1 13)) 7)) (pShl .u64 (pXor .u64 (pXor .u64 a0.2.2.1 (pShl .u64 a0.2.2.1 13)) (pShr .u64 (pXor .u64 a0.2.2.1 (pShl .u64 a0.2.2.1 13)) 7)) 17)) 20)) (pConv .u64 a1))), (a0.1, ((pAdd .i64 a0.2.1 1), ((pXor .u64 (pXor .u64 (pXor .u64 a0.2.2.1 (pShl .u64 a0.2.2.1 13)) (pShr .u64 (pXor .u64 a0.2.2.1 (pShl .u64 a0.2.2.1 13)) 7)) (pShl .u64 (pXor .u64 (pXor .u64 a0.2.2.1 (pShl .u64 a0.2.2.1 13)) (pShr .u64 (pXor .u64 a0.2.2.1 (pShl .u64 a0.2.2.1 13)) 7)) 17)), a0.2.2.2)))))))))) (
 ifB (pLt 13 0) (
 none) (
 ifB (pLt 7 0) (
 none) (
 ifB (pLt 17 0) (
 none) (
 ifB (pLt 20 0) (
 none) (
 ifB (pEq (pConv .u64 a1) 0) (
 none) (
 some ((pConv .i64 (pRem (pAdd .u64 0 (pShr .u64 (pXor .u64 (pXor .u64 (pXor .u64 a0.2.2.1 (pShl .u64 a0.2.2.1 13)) (pShr .u64 (pXor .u64 a0.2.2.1 (pShl .u64 a0.2.2.1 13)) 7)) (pShl .u64 (pXor .u64 (pXor .u64 a0.2.2.1 (pShl .u64 a0.2.2.1 13)) (pShr .u64 (pXor .u64 a0.2.2.1 (pShl .u64 a0.2.2.1 13)) 7)) 17)) 20)) (pConv .u64 a1))), (a0.1, (a0.2.1, ((pXor .u64 (pXor .u64 (pXor .u64 a0.2.2.1 (pShl .u64 a0.2.2.1 13)) (pShr .u64 (pXor .u64 a0.2.2.1 (pShl .u64 a0.2.2.1 13)) 7)) (pShl .u64 (pXor .u64 (pXor .u64 a0.2.2.1 (pShl .u64 a0.2.2.1 13)) (pShr .u64 (pXor .u64 a0.2.2.1 (pShl .u64 a0.2.2.1 13)) 7)) 17)), a0.2.2.2)))))))))))
def zAH (N : Nat) (a0 : List (Int) × Int × Int × Int × Unit) (a1 : Int) : Option (Bool × List Int × Int × Int × Int × Unit) :=
 bindO (zAB N a0 a1) fun y1 =>
 some ((pEq y1.1 0), y1.2)
def zBO (N : Nat) (a0 : List (Int)) : Option (List Int) :=
 ifB (pFit [] a0) (
 some (pApp [] a0)) (
 none)
def zB0 (N : Nat) (a0 : List (Int) × Int × Int × Int × Unit) : Option (Int × List Int × Int × Int × Int × Unit) :=
 bindO (zAB N a0 14) fun y15 =>
 ifB (pEq y15.1 0) (
 some (32, y15.2)) (
 ifB (pEq y15.1 1) (
 some (10, y15.2)) (
 ifB (pEq y15.1 2) (
 bindO (zAB N y15.2 5) fun y16 =>
 bindO (idx ([0, 9, 27, 31, 127] : List Int) y16.1) fun y17 =>
 bindO (idx ([0, 9, 27, 31, 127] : List Int) y16.1) fun y18 =>
 some (y18, y16.2)) (
 ifB (pEq y15.1 3) (
 bindO (zAB N y15.2 20) fun y19 =>
 bindO (idx ([768, 879, 880, 4352, 4447, 4448, 11903, 11904, 42191, 42192, 44032, 55203, 63744, 64255, 65281, 65376, 65377, 127744, 129791, 129792] : List Int) y19.1) fun y20 =>
 bindO (idx ([768, 879, 880, 4352, 4447, 4448, 11903, 11904, 42191, 42192, 44032, 55203, 63744, 64255, 65281, 65376, 65377, 127744, 129791, 129792] : List Int) y19.1) fun y21 =>
 some (y21, y19.2)) (
 ifB (pEq y15.1 4) (
 bindO (zAB N y15.2 8) fun y22 =>
 bindO (idx ([233, 960, 8364, 65533, 1114111, 65535, 55295, 57344] : List Int) y22.1) fun y23 =>
 bindO (idx ([233, 960, 8364, 65533, 1114111, 65535, 55295, 57344] : List Int) y22.1) fun y24 =>
 some (y24, y22.2)) (
 ifB (pEq y15.1 5) (
 bindO (zAB N y15.2 5) fun y25 =>
 bindO (idx ([46, 44, 45, 40, 36] : List Int) y25.1) fun y26 =>
 bindO (idx ([46, 44, 45, 40, 36] : List Int) y25.1) fun y27 =>
 some (y27, y25.2)) (
 ifB (pEq y15.1 6) (
 bindO (zAB N y15.2 10) fun y28 =>
 some ((pAdd .i64 48 y28.1), y28.2)) (
 bindO (zAB N y15.2 6) fun y29 =>
 some ((pAdd .i64 97 y29.1), y29.2))))))))
def zA5.l2 {R : Type} (N : Nat) (d : Int × (List Int × Int × Int × Int × Unit) × List Int × Unit) (kn : Int × (List Int × Int × Int × Int × Unit) × List Int × Unit → Option R) (kx : (List Int × Int × Int × Int × Unit) × List Int × Unit → Option R) : Option R :=
 let x13 := d.1;
 let x14 := d.2.1;
 let x15 := d.2.2.1;
 ifB (pGt x13 0) (
 bindO (zB0 N x14) fun y16 =>
 ifB (pFit x15 [y16.1]) (
 kn ((pSub .i64 x13 1), y16.2, (pApp x15 [y16.1]), ())) (
 none)) (
 kx (x14, x15, ()))
def zA5 (N : Nat) (a0 : List (Int) × Int × Int × Int × Unit) (a1 : Int) : Option (List Int × List Int × Int × Int × Int × Unit) :=
 loopP (zA5.l2 N) N (a1, a0, [], ()) (
 fun d =>
 let x17 := d.1;
 let x18 := d.2.1;
 some (x18, x17))
def zBP (N : Nat) (a0 : Int) (a1 : Int) : Option (Int) :=
 ifB (pLt a0 a1) (
 some a0) (
 some a1)
def zBD (N : Nat) (a0 : Int) (a1 : Int) : Option (Int) :=
 ifB (pGt a0 a1) (
 some a0) (
 some a1)
def zAX (N : Nat) (a0 : List (Int) × Int × Int × Int × Unit) : Option ((List Int × Int × Int × Unit) × List Int × Int × Int × Int × Unit) :=
 bindO (zAB N a0 (pAdd .i64 14 (pMul .i64 2 a0.2.2.2.1))) fun y25 =>
 bindO (zA5 N y25.2 y25.1) fun y26 =>
 bindO (zAH N y26.2 50) fun y27 =>
 ifB y27.1 (
 bindO (zAB N y27.2 4) fun y28 =>
 bindO (zA5 N y28.2 (pAdd .i64 298 y28.1)) fun y29 =>
 bindO (zAB N y29.2 (pAdd .i64 (pLen y29.1) 1)) fun y30 =>
 bindO (zAB N y30.2 (pAdd .i64 (pLen y29.1) 1)) fun y31 =>
 bindO (zAH N y31.2 15) fun y32 =>
 ifB y32.1 (
 bindO (zAB N y32.2 3) fun y33 =>
 ifB (pEq y33.1 0) (
 bindO (zAB N y33.2 2) fun y34 =>
 bindO (idx [(-1), (pAdd .i64 (pLen y29.1) 1)] y34.1) fun y35 =>
 bindO (idx [(-1), (pAdd .i64 (pLen y29.1) 1)] y34.1) fun y36 =>
 some ((y29.1, (y36, (y31.1, ()))), y34.2)) (
 ifB (pEq y33.1 1) (
 bindO (zAB N y33.2 2) fun y37 =>
 bindO (idx [(-1), (pAdd .i64 (pLen y29.1) 1)] y37.1) fun y38 =>
 bindO (idx [(-1), (pAdd .i64 (pLen y29.1) 1)] y37.1) fun y39 =>
 some ((y29.1, (y30.1, (y39, ()))), y37.2)) (
 ifB (pFit y29.1 [55296]) (
 some (((pApp y29.1 [55296]), (y30.1, (y31.1, ()))), y33.2)) (
 none)))) (
 some ((y29.1, (y30.1, (y31.1, ()))), y32.2))) (
 bindO (zAB N y27.2 (pAdd .i64 (pLen y26.1) 1)) fun y40 =>
 bindO (zAB N y40.2 (pAdd .i64 (pLen y26.1) 1)) fun y41 =>
 bindO (zAH N y41.2 15) fun y42 =>
 ifB y42.1 (
 bindO (zAB N y42.2 3) fun y43 =>
 ifB (pEq y43.1 0) (
 bindO (zAB N y43.2 2) fun y44 =>
 bindO (idx [(-1), (pAdd .i64 (pLen y26.1) 1)] y44.1) fun y45 =>
 bindO (idx [(-1), (pAdd .i64 (pLen y26.1) 1)] y44.1) fun y46 =>
 some ((y26.1, (y46, (y41.1, ()))), y44.2)) (
 ifB (pEq y43.1 1) (
 bindO (zAB N y43.2 2) fun y47 =>
 bindO (idx [(-1), (pAdd .i64 (pLen y26.1) 1)] y47.1) fun y48 =>
 bindO (idx [(-1), (pAdd .i64 (pLen y26.1) 1)] y47.1) fun y49 =>
 some ((y26.1, (y40.1, (y49, ()))), y47.2)) (
 ifB (pFit y26.1 [55296]) (
 some (((pApp y26.1 [55296]), (y40.1, (y41.1, ()))), y43.2)) (
 none)))) (
 some ((y26.1, (y40.1, (y41.1, ()))), y42.2)))
def zAN (N : Nat) (a0 : List (Int) × Int × Int × Int × Unit) : Option (List Int × List Int × Int × Int × Int × Unit) :=
 bindO (zAB N a0 5) fun y3 =>
 bindO (zA5 N y3.2 y3.1) fun y4 =>
 bindO (zAH N y4.2 30) fun y5 =>
 ifB y5.1 (
 ifB (pFit y4.1 [(-1)]) (
 some ((pApp y4.1 [(-1)]), y5.2)) (
 none)) (
 some (y4.1, y5.2))
def zAR (N : Nat) (a0 : List (Int) × Int × Int × Int × Unit) : Option (Int × List Int × Int × Int × Int × Unit) :=
 bindO (zAH N a0 15) fun y5 =>
 ifB y5.1 (
 bindO (zAB N y5.2 4) fun y6 =>
 bindO (idx ([1, 2, 80, 81] : List Int) y6.1) fun y7 =>
 bindO (idx ([1, 2, 80, 81] : List Int) y6.1) fun y8 =>
 some (y8, y6.2)) (
 bindO (zAB N y5.2 12) fun y9 =>
 some ((pAdd .i64 2 y9.1), y9.2))
def zBA (N : Nat) (a0 : Int) : Option (Bool) :=
 bindO (zAI N a0 2 80) fun y1 =>
 some y1
def zB2 (N : Nat) (a0 : List (Int)) (a1 : List (Int) × Int × Int × Unit) (a2 : Int) : Option (Bool) :=
 bindO (zAW N a0) fun y5 =>
 bindO (
 ifB y5 (
 bindO (zBI N a1) fun y7 =>
 some y7) (
 some false)) fun y6 =>
 bindO (
 ifB y6 (
 bindO (zBA N a2) fun y9 =>
 some y9) (
 some false)) fun y8 =>
 some y8
def zAY (N : Nat) (a0 : Int × Int × Int × (List ((List (Int) × Int × Unit) × Int × Int × Unit)) × Bool × (List (Int × Int × Unit)) × Unit) : Option (Int × Int × Int × (List ((List Int × Int × Unit) × Int × Int × Unit)) × Bool × (List (Int × Int × Unit)) × Unit) :=
 some (a0.1, ((pAdd .i64 a0.2.1 1), (0, (a0.2.2.2.1, (false, a0.2.2.2.2.2)))))
end Go.AE.F
end
