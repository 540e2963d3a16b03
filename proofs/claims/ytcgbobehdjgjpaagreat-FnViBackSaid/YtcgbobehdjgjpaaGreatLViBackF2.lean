/- Functions as they are printed out of the program: plain Lean, nothing is claimed here. -/
import Derived.Test.YtcgbobehdjgjpaaGreatLViBackF1
noncomputable section
namespace Go.AE.F
open Go.AE
def zBK (N : Nat) (a0 : List (Int) × Int × Int × Int × Unit) : Option (Int × List Int × Int × Int × Int × Unit) :=
 bindO (zAF N a0 14) fun y15 =>
 ifB (pEq y15.1 0) (
 some (32, y15.2)) (
 ifB (pEq y15.1 1) (
 some (10, y15.2)) (
 ifB (pEq y15.1 2) (
 bindO (zAF N y15.2 5) fun y16 =>
 bindO (idx ([0, 9, 27, 31, 127] : List Int) y16.1) fun y17 =>
 bindO (idx ([0, 9, 27, 31, 127] : List Int) y16.1) fun y18 =>
 some (y18, y16.2)) (
 ifB (pEq y15.1 3) (
 bindO (zAF N y15.2 20) fun y19 =>
 bindO (idx ([768, 879, 880, 4352, 4447, 4448, 11903, 11904, 42191, 42192, 44032, 55203, 63744, 64255, 65281, 65376, 65377, 127744, 129791, 129792] : List Int) y19.1) fun y20 =>
 bindO (idx ([768, 879, 880, 4352, 4447, 4448, 11903, 11904, 42191, 42192, 44032, 55203, 63744, 64255, 65281, 65376, 65377, 127744, 129791, 129792] : List Int) y19.1) fun y21 =>
 some (y21, y19.2)) (
 ifB (pEq y15.1 4) (
 bindO (zAF N y15.2 8) fun y22 =>
 bindO (idx ([233, 960, 8364, 65533, 1114111, 65535, 55295, 57344] : List Int) y22.1) fun y23 =>
 bindO (idx ([233, 960, 8364, 65533, 1114111, 65535, 55295, 57344] : List Int) y22.1) fun y24 =>
 some (y24, y22.2)) (
 ifB (pEq y15.1 5) (
 bindO (zAF N y15.2 5) fun y25 =>
 bindO (idx ([46, 44, 45, 40, 36] : List Int) y25.1) fun y26 =>
 bindO (idx ([46, 44, 45, 40, 36] : List Int) y25.1) fun y27 =>
 some (y27, y25.2)) (
 ifB (pEq y15.1 6) (
 bindO (zAF N y15.2 10) fun y28 =>
 some ((pAdd .i64 48 y28.1), y28.2)) (
 bindO (zAF N y15.2 6) fun y29 =>
 some ((pAdd .i64 97 y29.1), y29.2))))))))
def zAD.l2 {R : Type} (N : Nat) (d : Int × (List Int × Int × Int × Int × Unit) × List Int × Unit) (kn : Int × (List Int × Int × Int × Int × Unit) × List Int × Unit → Option R) (kx : (List Int × Int × Int × Int × Unit) × List Int × Unit → Option R) : Option R :=
 let x13 := d.1;
 let x14 := d.2.1;
 let x15 := d.2.2.1;
 ifB (pGt x13 0) (
 bindO (zBK N x14) fun y16 =>
 ifB (pFit x15 [y16.1]) (
 kn ((pSub .i64 x13 1), y16.2, (pApp x15 [y16.1]), ())) (
 none)) (
 kx (x14, x15, ()))
def zAD (N : Nat) (a0 : List (Int) × Int × Int × Int × Unit) (a1 : Int) : Option (List Int × List Int × Int × Int × Int × Unit) :=
 loopP (zAD.l2 N) N (a1, a0, [], ()) (
 fun d =>
 let x17 := d.1;
 let x18 := d.2.1;
 some (x18, x17))
def zAW.l4 {R : Type} (N : Nat) (d : List (List Int) × Int × Unit) (kn : List (List Int) × Int × Unit → Option R) (kx : (Unit) ⊕ (Bool × Unit) → Option R) : Option R :=
 let x17 := d.1;
 let x18 := d.2.1;
 ifB (pLt x18 (pLen x17)) (
 bindO (idx x17 x18) fun y19 =>
 bindO (
 ifB (pEq (pLen y19) 0) (
 some true) (
 bindO (idx x17 x18) fun y21 =>
 bindO (zAH N y21) fun y22 =>
 some (pNot y22))) fun y20 =>
 ifB y20 (
 kx (.inr (false, ()))) (
 kn (x17, (pAdd .i64 x18 1), ()))) (
 kx (.inl (())))
def zAW (N : Nat) (a0 : List (List (Int))) (a1 : Int) : Option (Bool) :=
 ifB (pGt (pLen a0) a1) (
 some false) (
 loopP (zAW.l4 N) N (a0, 0, ()) (
 onSum (fun d =>
 some true) (
 fun d =>
 let x23 := d.1;
 some x23)))
def zAT.l3 {R : Type} (N : Nat) (d : List (List Int) × Int × Int × List (List Int) × Unit) (kn : List (List Int) × Int × Int × List (List Int) × Unit → Option R) (kx : List (List Int) × Unit → Option R) : Option R :=
 let x15 := d.1;
 let x16 := d.2.1;
 let x17 := d.2.2.1;
 let x18 := d.2.2.2.1;
 ifB (pLt x17 x16) (
 bindO (idx x15 x17) fun y19 =>
 bindO (zA8 N y19) fun y20 =>
 ifB (pFit x18 [y20]) (
 kn (x15, x16, (pAdd .i64 x17 1), (pApp x18 [y20]), ())) (
 none)) (
 kx (x18, ()))
def zAT (N : Nat) (a0 : List (List (Int))) : Option (List (List Int)) :=
 loopP (zAT.l3 N) N (a0, (pLen a0), 0, [], ()) (
 fun d =>
 let x21 := d.1;
 some x21)
def zCP (N : Nat) (a0 : List (Int)) : Option (Bool) :=
 bindO (
 ifB (pGt (pLen a0) 0) (
 bindO (zBE N a0) fun y3 =>
 some y3) (
 some false)) fun y2 =>
 some y2
def zBP (N : Nat) (a0 : List (Int)) : Option (Bool) :=
 bindO (zCP N a0) fun y1 =>
 some (pNot y1)
def zA0.l2 {R : Type} (N : Nat) (d : List (List Int) × Int × Int × Unit) (kn : List (List Int) × Int × Int × Unit → Option R) (kx : (Unit) ⊕ (Int × Unit) → Option R) : Option R :=
 let x13 := d.1;
 let x14 := d.2.1;
 let x15 := d.2.2.1;
 ifB (pLt x15 x14) (
 bindO (idx x13 x15) fun y16 =>
 bindO (zBP N y16) fun y17 =>
 ifB y17 (
 kx (.inr (x15, ()))) (
 kn (x13, x14, (pAdd .i64 x15 1), ()))) (
 kx (.inl (())))
def zA0 (N : Nat) (a0 : List (List (Int))) : Option (Int) :=
 loopP (zA0.l2 N) N (a0, (pLen a0), 0, ()) (
 onSum (fun d =>
 some (-1)) (
 fun d =>
 let x18 := d.1;
 some x18))
def zA9 (N : Nat) (a0 : List (List (Int))) : Option (Bool) :=
 bindO (zA0 N a0) fun y1 =>
 some (pGe y1 0)
def zCA (N : Nat) (a0 : List (List (Int))) : Option (Bool) :=
 bindO (zA9 N a0) fun y1 =>
 some (pNot y1)
def zBO (N : Nat) (a0 : List (List (Int))) : Option (Int) :=
 some (pLen a0)
def zCS (N : Nat) (a0 : List (Int)) (a1 : Int) (a2 : Int) : Option (Int) :=
 bindO (
 ifB (pLe a2 1) (
 some true) (
 some (pEq (pLen a0) 0))) fun y2 =>
 ifB y2 (
 some 0) (
 ifB (pEq (pLen a0) 0) (
 none) (
 bindO (idx a0 (pRem a1 (pLen a0))) fun y3 =>
 ifB (pEq a2 0) (
 none) (
 some (pRem (pConv .i64 y3) a2))))
def zAY.l3 {R : Type} (N : Nat) (d : Int × Int × List Int × Unit) (kn : Int × Int × List Int × Unit → Option R) (kx : (Unit) ⊕ (Int × Unit) → Option R) : Option R :=
 let x13 := d.1;
 let x14 := d.2.1;
 let x15 := d.2.2.1;
 ifB (pLt x14 (pLen x15)) (
 bindO (idx x15 x14) fun y16 =>
 bindO (idx x15 x14) fun y17 =>
 ifB (pEq y17 x13) (
 kx (.inr ((pAdd .i64 x14 1), ()))) (
 kn (x13, (pAdd .i64 x14 1), x15, ()))) (
 kx (.inl (())))
def zAY (N : Nat) (a0 : Int) : Option (Int) :=
 loopP (zAY.l3 N) N (a0, 0, [104, 108, 98, 119, 48, 36, 107, 106, 103, 71], ()) (
 onSum (fun d =>
 some 0) (
 fun d =>
 let x18 := d.1;
 some x18))
def zAK.l1 {R : Type} (N : Nat) (d : Int × (List Int × Int × Int × Unit) × Unit) (kn : Int × (List Int × Int × Int × Unit) × Unit → Option R) (kx : Int × Unit → Option R) : Option R :=
 let x10 := d.1;
 let x11 := d.2.1;
 bindO (
 ifB (pGt x10 0) (
 bindO (idx x11.1 (pSub .i64 x10 1)) fun y13 =>
 some (pNe y13 10)) (
 some false)) fun y12 =>
 ifB y12 (
 kn ((pSub .i64 x10 1), x11, ())) (
 kx (x10, ()))
def zAK (N : Nat) (a0 : List (Int) × Int × Int × Unit) (a1 : Int) : Option (Int) :=
 loopP (zAK.l1 N) N (a1, a0, ()) (
 fun d =>
 let x14 := d.1;
 some x14)
def zAX.l3 {R : Type} (N : Nat) (d : Int × Int × Int × (List Int × Int × Int × Unit) × (Int × Int × Unit) × Unit) (kn : Int × Int × Int × (List Int × Int × Int × Unit) × (Int × Int × Unit) × Unit → Option R) (kx : Int × Int × (List Int × Int × Int × Unit) × (Int × Int × Unit) × Unit → Option R) : Option R :=
 let x27 := d.1;
 let x28 := d.2.1;
 let x29 := d.2.2.1;
 let x30 := d.2.2.2.1;
 let x31 := d.2.2.2.2.1;
 ifB (pLt x29 x27) (
 bindO (A := Int × Int × Int × (List Int × Int × Int × Unit) × (Int × Int × Unit) × Unit) (
 bindO (idx x30.1 x29) fun y32 =>
 ifB (pEq y32 10) (
 some (x27, (pAdd .i64 x28 1), x29, x30, x31, ())) (
 some (x27, x28, x29, x30, x31, ()))) (
 fun d =>
 let x33 := d.1;
 let x34 := d.2.1;
 let x35 := d.2.2.1;
 let x36 := d.2.2.2.1;
 let x37 := d.2.2.2.2.1;
 kn (x33, x34, (pAdd .i64 x35 1), x36, x37, ()))) (
 kx (x27, x28, x30, x31, ()))
def zAX (N : Nat) (a0 : List (Int) × Int × Int × Unit) (a1 : Int) : Option (Int × Int × Unit) :=
 loopP (zAX.l3 N) N (a1, 0, 0, a0, (0, (0, ())), ()) (
 fun d =>
 let x38 := d.1;
 let x39 := d.2.1;
 let x40 := d.2.2.1;
 let x41 := d.2.2.2.1;
 bindO (zAK N x40 x38) fun y42 =>
 some (x39, ((pSub .i64 x38 y42), ())))
def zC3 (N : Nat) (a0 : List (Int) × Int × Int × Unit) : Option (Int) :=
 bindO (zB6 N a0) fun y2 =>
 ifB (pNot y2) (
 some 0) (
 bindO (zAX N a0 (pLen a0.1)) fun y3 =>
 some (pAdd .i64 y3.1 1))
def zBL (N : Nat) (a0 : Int) (a1 : Int) : Option (Int) :=
 ifB (pLt a0 a1) (
 some a0) (
 some a1)
def zBR (N : Nat) (a0 : Int) (a1 : Int) : Option (Int) :=
 ifB (pGt a0 a1) (
 some a0) (
 some a1)
def zAV.l1 {R : Type} (N : Nat) (d : Int × (List Int × Int × Int × Unit) × Unit) (kn : Int × (List Int × Int × Int × Unit) × Unit → Option R) (kx : Int × Unit → Option R) : Option R :=
 let x10 := d.1;
 let x11 := d.2.1;
 bindO (
 ifB (pLt x10 (pLen x11.1)) (
 bindO (idx x11.1 x10) fun y13 =>
 some (pNe y13 10)) (
 some false)) fun y12 =>
 ifB y12 (
 kn ((pAdd .i64 x10 1), x11, ())) (
 kx (x10, ()))
def zAV (N : Nat) (a0 : List (Int) × Int × Int × Unit) (a1 : Int) : Option (Int) :=
 loopP (zAV.l1 N) N (a1, a0, ()) (
 fun d =>
 let x14 := d.1;
 some x14)
def zAZ.l5 {R : Type} (N : Nat) (d : Int × Int × (List Int × Int × Int × Unit) × (Int × Int × Unit) × Unit) (kn : Int × Int × (List Int × Int × Int × Unit) × (Int × Int × Unit) × Unit → Option R) (kx : Int × (List Int × Int × Int × Unit) × (Int × Int × Unit) × Unit → Option R) : Option R :=
 let x26 := d.1;
 let x27 := d.2.1;
 let x28 := d.2.2.1;
 let x29 := d.2.2.2.1;
 ifB (pGt x26 0) (
 bindO (zAV N x28 x27) fun y30 =>
 kn ((pSub .i64 x26 1), (pAdd .i64 y30 1), x28, x29, ())) (
 kx (x27, x28, x29, ()))
def zAZ (N : Nat) (a0 : List (Int) × Int × Int × Unit) (a1 : Int × Int × Unit) : Option (Int) :=
 bindO (zB6 N a0) fun y22 =>
 ifB (pNot y22) (
 some 0) (
 bindO (zC3 N a0) fun y23 =>
 bindO (zBL N a1.1 (pSub .i64 y23 1)) fun y24 =>
 bindO (zBR N 0 y24) fun y25 =>
 loopP (zAZ.l5 N) N (y25, 0, a0, a1, ()) (
 fun d =>
 let x31 := d.1;
 let x32 := d.2.1;
 let x33 := d.2.2.1;
 bindO (zAV N x32 x31) fun y34 =>
 ifB (pLt x33.2.1 0) (
 some x31) (
 ifB (pGt x33.2.1 (pSub .i64 y34 x31)) (
 some y34) (
 some (pAdd .i64 x31 x33.2.1)))))
def zA4.l8 {R : Type} (N : Nat) (d : Int × (List Int × Int × Int × Unit) × Unit) (kn : Int × (List Int × Int × Int × Unit) × Unit → Option R) (kx : Int × (List Int × Int × Int × Unit) × Unit → Option R) : Option R :=
 let x79 := d.1;
 let x80 := d.2.1;
 bindO (
 ifB (pGt x79 0) (
 bindO (idx x80.1 (pSub .i64 x79 1)) fun y82 =>
 bindO (zC6 N y82) fun y83 =>
 some (pNe y83 2)) (
 some false)) fun y81 =>
 ifB y81 (
 kn ((pSub .i64 x79 1), x80, ())) (
 kx (x79, x80, ()))
def zA4.l10 {R : Type} (N : Nat) (d : Int × (List Int × Int × Int × Unit) × Unit) (kn : Int × (List Int × Int × Int × Unit) × Unit → Option R) (kx : Int × Unit → Option R) : Option R :=
 let x86 := d.1;
 let x87 := d.2.1;
 bindO (
 ifB (pGt x86 0) (
 bindO (idx x87.1 (pSub .i64 x86 1)) fun y89 =>
 bindO (zC6 N y89) fun y90 =>
 some (pEq y90 2)) (
 some false)) fun y88 =>
 ifB y88 (
 kn ((pSub .i64 x86 1), x87, ())) (
 kx (x86, ()))
def zA4.l14 {R : Type} (N : Nat) (d : Int × Int × (List Int × Int × Int × Unit) × Unit) (kn : Int × Int × (List Int × Int × Int × Unit) × Unit → Option R) (kx : Int × Int × (List Int × Int × Int × Unit) × Unit → Option R) : Option R :=
 let x92 := d.1;
 let x93 := d.2.1;
 let x94 := d.2.2.1;
 bindO (
 ifB (pLt x92 x93) (
 bindO (idx x94.1 x92) fun y96 =>
 bindO (zC6 N y96) fun y97 =>
 some (pNe y97 2)) (
 some false)) fun y95 =>
 ifB y95 (
 kn ((pAdd .i64 x92 1), x93, x94, ())) (
 kx (x92, x93, x94, ()))
def zA4.l16 {R : Type} (N : Nat) (d : Int × Int × (List Int × Int × Int × Unit) × Unit) (kn : Int × Int × (List Int × Int × Int × Unit) × Unit → Option R) (kx : Int × Unit → Option R) : Option R :=
 let x101 := d.1;
 let x102 := d.2.1;
 let x103 := d.2.2.1;
 bindO (
 ifB (pLt x101 x102) (
 bindO (idx x103.1 x101) fun y105 =>
 bindO (zC6 N y105) fun y106 =>
 some (pEq y106 2)) (
 some false)) fun y104 =>
 ifB y104 (
 kn ((pAdd .i64 x101 1), x102, x103, ())) (
 kx (x101, ()))
def zA4.l28 {R : Type} (N : Nat) (d : Int × Int × Int × Int × (List Int × Int × Int × Unit) × Unit) (kn : Int × Int × Int × Int × (List Int × Int × Int × Unit) × Unit → Option R) (kx : (Int × Unit) ⊕ (Int × Unit) → Option R) : Option R :=
 let x110 := d.1;
 let x111 := d.2.1;
 let x112 := d.2.2.1;
 let x113 := d.2.2.2.1;
 let x114 := d.2.2.2.2.1;
 ifB (pLt x113 x112) (
 bindO (idx x114.1 x113) fun y115 =>
 ifB (pEq y115 x111) (
 kx (.inr (x113, ()))) (
 kn (x110, x111, x112, (pAdd .i64 x113 1), x114, ()))) (
 kx (.inl (x110, ())))
end Go.AE.F
end
