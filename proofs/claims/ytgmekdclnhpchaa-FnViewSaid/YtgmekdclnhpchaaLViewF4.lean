/- Functions as they are printed out of the program: plain Lean, nothing is claimed here. -/
import Derived.Test.YtgmekdclnhpchaaLViewF3
noncomputable section
namespace Go.AE.F
open Go.AE
def zAA (N : Nat) (a0 : Int × Int × (List (List (Int) × Int × Unit)) × Int × Int × Bool × Int × Unit) : Option (Bool) :=
 bindO (zB9 N a0.1) fun y39 =>
 ifB (pNot y39) (
 some false) (
 bindO (zBA N a0.2.1) fun y40 =>
 ifB (pNot y40) (
 some false) (
 bindO (zAK N a0.2.2.1) fun y41 =>
 ifB (pNe y41 (pMul .i64 a0.1 a0.2.1)) (
 some false) (
 bindO (zAI N a0.2.2.2.1 0 (pSub .i64 a0.1 1)) fun y42 =>
 ifB (pNot y42) (
 some false) (
 bindO (zAI N a0.2.2.2.2.1 0 (pSub .i64 a0.2.1 1)) fun y43 =>
 ifB (pNot y43) (
 some false) (
 ifB a0.2.2.2.2.2.1 (
 ifB (pNe a0.2.2.2.2.1 (pSub .i64 a0.2.1 1)) (
 some false) (
 bindO (zAI N a0.2.2.2.2.2.2.1 0 3) fun y44 =>
 ifB (pNot y44) (
 some false) (
 loopP (zAA.l4 N) N (a0.2.2.1, (pLen a0.2.2.1), 0, a0, ()) (
 onSum (fun d =>
 some true) (
 fun d =>
 let x60 := d.1;
 some x60))))) (
 bindO (zAI N a0.2.2.2.2.2.2.1 0 3) fun y61 =>
 ifB (pNot y61) (
 some false) (
 loopP (zAA.l4 N) N (a0.2.2.1, (pLen a0.2.2.1), 0, a0, ()) (
 onSum (fun d =>
 some true) (
 fun d =>
 let x77 := d.1;
 some x77)))))))))
def zAM (N : Nat) (a0 : Int × Int × (List (List (Int) × Int × Unit)) × Int × Int × Bool × Int × Unit) (a1 : Int) : Option (Bool) :=
 ifB (pEq a0.2.1 0) (
 none) (
 bindO (
 ifB (pGt (pRem a1 a0.2.1) 0) (
 bindO (idx a0.2.2.1 (pSub .i64 a1 1)) fun y4 =>
 bindO (zAP N y4) fun y5 =>
 some y5) (
 some false)) fun y3 =>
 some y3)
def zAC.l5 {R : Type} (N : Nat) (d : Bool × Int × Int × (Int × Int × (List (List Int × Int × Unit)) × Int × Int × Bool × Int × Unit) × Unit) (kn : Bool × Int × Int × (Int × Int × (List (List Int × Int × Unit)) × Int × Int × Bool × Int × Unit) × Unit → Option R) (kx : (Unit) ⊕ (Bool × Unit) → Option R) : Option R :=
 let x39 := d.1;
 let x40 := d.2.1;
 let x41 := d.2.2.1;
 let x42 := d.2.2.2.1;
 ifB (pLt x41 x40) (
 bindO (A := (Bool × Int × Int × (Int × Int × (List (List Int × Int × Unit)) × Int × Int × Bool × Int × Unit) × Unit) ⊕ (Bool × Unit)) (
 ifB (pEq x42.2.1 0) (
 none) (
 ifB (pEq (pRem x41 x42.2.1) 0) (
 bindO (idx x42.2.2.1 x41) fun y43 =>
 bindO (zAM N x42 x41) fun y44 =>
 ifB y44 (
 some (.inl (false, x40, x41, x42, ()))) (
 bindO (zAQ N y43) fun y45 =>
 ifB (pNot y45) (
 some (.inl (false, x40, x41, x42, ()))) (
 ifB (pNe y43.2.1 0) (
 some (.inr (false, ()))) (
 some (.inl (true, x40, x41, x42, ())))))) (
 bindO (idx x42.2.2.1 x41) fun y46 =>
 bindO (zAM N x42 x41) fun y47 =>
 ifB y47 (
 some (.inl (x39, x40, x41, x42, ()))) (
 bindO (zAQ N y46) fun y48 =>
 ifB (pNot y48) (
 ifB x39 (
 some (.inr (false, ()))) (
 some (.inl (x39, x40, x41, x42, ())))) (
 ifB (pNe y46.2.1 0) (
 some (.inr (false, ()))) (
 some (.inl (true, x40, x41, x42, ())))))))) (
 onSum (fun d =>
 let x49 := d.1;
 let x50 := d.2.1;
 let x51 := d.2.2.1;
 let x52 := d.2.2.2.1;
 kn (x49, x50, (pAdd .i64 x51 1), x52, ())) (
 fun d =>
 let x53 := d.1;
 kx (.inr (x53, ()))))) (
 kx (.inl (())))
def zAC (N : Nat) (a0 : Int × Int × (List (List (Int) × Int × Unit)) × Int × Int × Bool × Int × Unit) : Option (Bool) :=
 bindO (zAA N a0) fun y35 =>
 bindO (
 ifB (pNot y35) (
 some true) (
 some a0.2.2.2.2.2.1)) fun y36 =>
 bindO (
 ifB y36 (
 some true) (
 some (pNe a0.2.2.2.2.2.2.1 0))) fun y37 =>
 ifB y37 (
 some false) (
 bindO (zAK N a0.2.2.1) fun y38 =>
 loopP (zAC.l5 N) N (false, y38, 0, a0, ()) (
 onSum (fun d =>
 some true) (
 fun d =>
 let x54 := d.1;
 some x54)))
def zBN (N : Nat) (a0 : Int) (a1 : Int) : Option (Int × Int × (List (List Int × Int × Unit)) × Int × Int × Bool × Int × Unit) :=
 bindO (zB4 N a0 a1) fun y1 =>
 ifB (pNot y1) (
 some (0, (0, ([], (0, (0, (false, (0, ())))))))) (
 ifB (pEq (pMul .i64 a0 a1) (pMul .i64 a0 a1)) (
 ifB (pLe 0 (pMul .i64 a0 a1)) (
 ifB (pLe (pMul .i64 a0 a1) 68719476736) (
 some (a0, (a1, ((pRepl (pMul .i64 a0 a1) ([], (0, ()))), (0, (0, (false, (0, ())))))))) (
 none)) (
 none)) (
 none))
def zBM (N : Nat) (a0 : Int) (a1 : Int) : Option (Int × Int × (List (List Int × Int × Unit)) × Int × Int × Bool × Int × Unit) :=
 bindO (zB9 N a0) fun y3 =>
 bindO (
 ifB (pNot y3) (
 some true) (
 bindO (zBA N a1) fun y5 =>
 some (pNot y5))) fun y4 =>
 ifB y4 (
 some (0, (0, ([], (0, (0, (false, (0, ())))))))) (
 ifB (pEq (pMul .i64 a0 a1) (pMul .i64 a0 a1)) (
 ifB (pLe 0 (pMul .i64 a0 a1)) (
 ifB (pLe (pMul .i64 a0 a1) 68719476736) (
 some (a0, (a1, ((pRepl (pMul .i64 a0 a1) ([], (0, ()))), (0, (0, (false, (0, ())))))))) (
 none)) (
 none)) (
 none))
def zB1 (N : Nat) (a0 : List (Int) × Int × Unit) (a1 : List (Int) × Int × Unit) : Option (Bool) :=
 bindO (
 ifB (pEq a0.2.1 a1.2.1) (
 bindO (zA2 N a0.1 a1.1) fun y3 =>
 some y3) (
 some false)) fun y2 =>
 some y2
def zA0.l4 {R : Type} (N : Nat) (d : (List (List Int × Int × Unit)) × (List (List Int × Int × Unit)) × Int × Int × Unit) (kn : (List (List Int × Int × Unit)) × (List (List Int × Int × Unit)) × Int × Int × Unit → Option R) (kx : (Unit) ⊕ (Bool × Unit) → Option R) : Option R :=
 let x18 := d.1;
 let x19 := d.2.1;
 let x20 := d.2.2.1;
 let x21 := d.2.2.2.1;
 ifB (pLt x21 x20) (
 bindO (idx x19 x21) fun y22 =>
 bindO (idx x18 x21) fun y23 =>
 bindO (zB1 N y22 y23) fun y24 =>
 ifB (pNot y24) (
 kx (.inr (false, ()))) (
 kn (x18, x19, x20, (pAdd .i64 x21 1), ()))) (
 kx (.inl (())))
def zA0 (N : Nat) (a0 : List (List (Int) × Int × Unit)) (a1 : List (List (Int) × Int × Unit)) : Option (Bool) :=
 ifB (pNe (pLen a0) (pLen a1)) (
 some false) (
 loopP (zA0.l4 N) N (a1, a0, (pLen a0), 0, ()) (
 onSum (fun d =>
 some true) (
 fun d =>
 let x25 := d.1;
 some x25)))
def zBB (N : Nat) (a0 : List (List (Int) × Int × Unit)) (a1 : List (List (Int) × Int × Unit)) : Option (Bool) :=
 bindO (zA0 N a0 a1) fun y1 =>
 some y1
def zB6 (N : Nat) (a0 : List (Int)) : Option (List Int × (List Int × Int × Int × Unit) × Bool × Int × Int) :=
 bindO (zAE N a0) fun y12 =>
 bindO (zAN N y12) fun y13 =>
 bindO (zAX N y13.2) fun y14 =>
 bindO (zAB N y14.2 6) fun y15 =>
 bindO (zAH N y15.2 15) fun y16 =>
 ifB y16.1 (
 bindO (zAB N y16.2 3) fun y17 =>
 bindO (idx ([0, 24, 25] : List Int) y17.1) fun y18 =>
 bindO (idx ([0, 24, 25] : List Int) y17.1) fun y19 =>
 bindO (zAH N y17.2 2) fun y20 =>
 bindO (zAR N y20.2) fun y21 =>
 some (y13.1, y14.1, y20.1, y19, y21.1)) (
 bindO (zAH N y16.2 2) fun y22 =>
 bindO (zAR N y22.2) fun y23 =>
 some (y13.1, y14.1, y22.1, (pAdd .i64 1 y15.1), y23.1))
def zA8.l14 {R : Type} (N : Nat) (d : Int × Int × Int × Int × ((Int × Int × (List (List Int × Int × Unit)) × Int × Int × Bool × Int × Unit) × Int × Int × Unit) × (Int × (List (List (List Int × Int × Unit))) × Int × Unit) × ((Int × Int × (List (List Int × Int × Unit)) × Int × Int × Bool × Int × Unit) × Int × Int × Unit) × Unit) (kn : Int × Int × Int × Int × ((Int × Int × (List (List Int × Int × Unit)) × Int × Int × Bool × Int × Unit) × Int × Int × Unit) × (Int × (List (List (List Int × Int × Unit))) × Int × Unit) × ((Int × Int × (List (List Int × Int × Unit)) × Int × Int × Bool × Int × Unit) × Int × Int × Unit) × Unit → Option R) (kx : Int × Int × Int × ((Int × Int × (List (List Int × Int × Unit)) × Int × Int × Bool × Int × Unit) × Int × Int × Unit) × (Int × (List (List (List Int × Int × Unit))) × Int × Unit) × ((Int × Int × (List (List Int × Int × Unit)) × Int × Int × Bool × Int × Unit) × Int × Int × Unit) × Unit → Option R) : Option R :=
 let x82 := d.1;
 let x83 := d.2.1;
 let x84 := d.2.2.1;
 let x85 := d.2.2.2.1;
 let x86 := d.2.2.2.2.1;
 let x87 := d.2.2.2.2.2.1;
 let x88 := d.2.2.2.2.2.2.1;
 ifB (pLt x85 x83) (
 bindO (idx x87.2.1 (pAdd .i64 x88.2.1 x84)) fun y89 =>
 bindO (idx y89 x85) fun y90 =>
 bindO (idx x88.1.2.2.1 (pAdd .i64 (pMul .i64 x84 x83) x85)) fun y91 =>
 bindO (idx x88.1.2.2.1 (pAdd .i64 (pMul .i64 x84 x83) x85)) fun y92 =>
 kn (x82, x83, x84, (pAdd .i64 x85 1), x86, x87, ((x88.1.1, (x88.1.2.1, ((pSet x88.1.2.2.1 (pAdd .i64 (pMul .i64 x84 x83) x85) y90), x88.1.2.2.2))), x88.2), ())) (
 kx (x82, x83, x84, x86, x87, x88, ()))
def zA8.l11 {R : Type} (N : Nat) (d : Int × Int × Int × ((Int × Int × (List (List Int × Int × Unit)) × Int × Int × Bool × Int × Unit) × Int × Int × Unit) × (Int × (List (List (List Int × Int × Unit))) × Int × Unit) × ((Int × Int × (List (List Int × Int × Unit)) × Int × Int × Bool × Int × Unit) × Int × Int × Unit) × Unit) (kn : Int × Int × Int × ((Int × Int × (List (List Int × Int × Unit)) × Int × Int × Bool × Int × Unit) × Int × Int × Unit) × (Int × (List (List (List Int × Int × Unit))) × Int × Unit) × ((Int × Int × (List (List Int × Int × Unit)) × Int × Int × Bool × Int × Unit) × Int × Int × Unit) × Unit → Option R) (kx : ((Int × Int × (List (List Int × Int × Unit)) × Int × Int × Bool × Int × Unit) × Int × Int × Unit) × ((Int × Int × (List (List Int × Int × Unit)) × Int × Int × Bool × Int × Unit) × Int × Int × Unit) × Unit → Option R) : Option R :=
 let x76 := d.1;
 let x77 := d.2.1;
 let x78 := d.2.2.1;
 let x79 := d.2.2.2.1;
 let x80 := d.2.2.2.2.1;
 let x81 := d.2.2.2.2.2.1;
 ifB (pLt x78 x76) (
 ifB (pLt (pAdd .i64 x81.2.1 x78) (pLen x80.2.1)) (
 loopP (zA8.l14 N) N (x76, x77, x78, 0, x79, x80, x81, ()) (
 fun d =>
 let x93 := d.1;
 let x94 := d.2.1;
 let x95 := d.2.2.1;
 let x96 := d.2.2.2.1;
 let x97 := d.2.2.2.2.1;
 let x98 := d.2.2.2.2.2.1;
 kn (x93, x94, (pAdd .i64 x95 1), x96, x97, x98, ()))) (
 kx (x79, x81, ()))) (
 kx (x79, x81, ()))
def zA8 (N : Nat) (a0 : List (Int)) (a1 : List (Int) × Int × Int × Unit) (a2 : Bool) (a3 : Int) (a4 : Int) : Option ((Int × Int × (List (List Int × Int × Unit)) × Int × Int × Bool × Int × Unit) × Int × Int × Unit) :=
 ifB (pGt (pLen a0) 400) (
 some ((0, (0, ([], (0, (0, (false, (0, ()))))))), (0, (2, ())))) (
 bindO (zA7 N a0) fun y67 =>
 bindO (
 ifB (pNot y67) (
 some true) (
 bindO (zBC N a1) fun y69 =>
 some (pNot y69))) fun y68 =>
 bindO (
 ifB y68 (
 some true) (
 bindO (zB4 N a3 a4) fun y71 =>
 some (pNot y71))) fun y70 =>
 ifB y70 (
 some ((0, (0, ([], (0, (0, (false, (0, ()))))))), (0, (1, ())))) (
 bindO (zA9 N a0 a1 a2 a4) fun y72 =>
 bindO (idx y72.2 a1.2.1) fun y73 =>
 bindO (zBN N a3 a4) fun y74 =>
 bindO (zBD N 0 (pAdd .i64 (pSub .i64 y73.1 a3) 1)) fun y75 =>
 loopP (zA8.l11 N) N (a3, a4, 0, ((0, (0, ([], (0, (0, (false, (0, ()))))))), (0, (0, ()))), y72.1, ((y74.1, (y74.2.1, (y74.2.2.1, ((pSub .i64 y73.1 y75), (y73.2.1, y74.2.2.2.2.2))))), (y75, (0, ()))), ()) (
 fun d =>
 let x99 := d.1;
 let x100 := d.2.1;
 some x100)))
def zAJ.l9 {R : Type} (N : Nat) (d : Int × Int × Int × (List ((List Int × Int × Unit) × Int × Int × Unit)) × Int × Int × ((Int × Int × (List (List Int × Int × Unit)) × Int × Int × Bool × Int × Unit) × Int × Int × Unit) × (Int × Int × (List (List Int × Int × Unit)) × Int × Int × Bool × Int × Unit) × (Int × Int × Unit) × Unit) (kn : Int × Int × Int × (List ((List Int × Int × Unit) × Int × Int × Unit)) × Int × Int × ((Int × Int × (List (List Int × Int × Unit)) × Int × Int × Bool × Int × Unit) × Int × Int × Unit) × (Int × Int × (List (List Int × Int × Unit)) × Int × Int × Bool × Int × Unit) × (Int × Int × Unit) × Unit → Option R) (kx : Int × ((Int × Int × (List (List Int × Int × Unit)) × Int × Int × Bool × Int × Unit) × Int × Int × Unit) × (Int × Int × (List (List Int × Int × Unit)) × Int × Int × Bool × Int × Unit) × (Int × Int × Unit) × Unit → Option R) : Option R :=
 let x76 := d.1;
 let x77 := d.2.1;
 let x78 := d.2.2.1;
 let x79 := d.2.2.2.1;
 let x80 := d.2.2.2.2.1;
 let x81 := d.2.2.2.2.2.1;
 let x82 := d.2.2.2.2.2.2.1;
 let x83 := d.2.2.2.2.2.2.2.1;
 let x84 := d.2.2.2.2.2.2.2.2.1;
 ifB (pLt x81 x80) (
 bindO (A := Int × Int × Int × (List ((List Int × Int × Unit) × Int × Int × Unit)) × Int × Int × ((Int × Int × (List (List Int × Int × Unit)) × Int × Int × Bool × Int × Unit) × Int × Int × Unit) × (Int × Int × (List (List Int × Int × Unit)) × Int × Int × Bool × Int × Unit) × (Int × Int × Unit) × Unit) (
 bindO (idx x79 x81) fun y85 =>
 bindO (zAI N y85.2.1 x78 (pSub .i64 (pAdd .i64 x78 x76) 1)) fun y86 =>
 ifB (pNot y86) (
 some (x76, x77, x78, x79, x80, x81, x82, x83, x84, ())) (
 bindO (idx x83.2.2.1 (pAdd .i64 (pMul .i64 (pSub .i64 y85.2.1 x78) x77) y85.2.2.1)) fun y87 =>
 bindO (idx x83.2.2.1 (pAdd .i64 (pMul .i64 (pSub .i64 y85.2.1 x78) x77) y85.2.2.1)) fun y88 =>
 bindO (idx (pSet x83.2.2.1 (pAdd .i64 (pMul .i64 (pSub .i64 y85.2.1 x78) x77) y85.2.2.1) y85.1) (pAdd .i64 (pMul .i64 (pSub .i64 y85.2.1 x78) x77) y85.2.2.1)) fun y89 =>
 bindO (idx (pSet x83.2.2.1 (pAdd .i64 (pMul .i64 (pSub .i64 y85.2.1 x78) x77) y85.2.2.1) y85.1) (pAdd .i64 (pMul .i64 (pSub .i64 y85.2.1 x78) x77) y85.2.2.1)) fun y90 =>
 bindO (zAP N y90) fun y91 =>
 ifB y91 (
 bindO (idx (pSet x83.2.2.1 (pAdd .i64 (pMul .i64 (pSub .i64 y85.2.1 x78) x77) y85.2.2.1) y85.1) (pAdd .i64 (pAdd .i64 (pMul .i64 (pSub .i64 y85.2.1 x78) x77) y85.2.2.1) 1)) fun y92 =>
 bindO (idx (pSet x83.2.2.1 (pAdd .i64 (pMul .i64 (pSub .i64 y85.2.1 x78) x77) y85.2.2.1) y85.1) (pAdd .i64 (pAdd .i64 (pMul .i64 (pSub .i64 y85.2.1 x78) x77) y85.2.2.1) 1)) fun y93 =>
 some (x76, x77, x78, x79, x80, x81, x82, (x83.1, (x83.2.1, ((pSet (pSet x83.2.2.1 (pAdd .i64 (pMul .i64 (pSub .i64 y85.2.1 x78) x77) y85.2.2.1) y85.1) (pAdd .i64 (pAdd .i64 (pMul .i64 (pSub .i64 y85.2.1 x78) x77) y85.2.2.1) 1) ([], (y85.1.2.1, ()))), x83.2.2.2))), x84, ())) (
 some (x76, x77, x78, x79, x80, x81, x82, (x83.1, (x83.2.1, ((pSet x83.2.2.1 (pAdd .i64 (pMul .i64 (pSub .i64 y85.2.1 x78) x77) y85.2.2.1) y85.1), x83.2.2.2))), x84, ())))) (
 fun d =>
 let x94 := d.1;
 let x95 := d.2.1;
 let x96 := d.2.2.1;
 let x97 := d.2.2.2.1;
 let x98 := d.2.2.2.2.1;
 let x99 := d.2.2.2.2.2.1;
 let x100 := d.2.2.2.2.2.2.1;
 let x101 := d.2.2.2.2.2.2.2.1;
 let x102 := d.2.2.2.2.2.2.2.2.1;
 kn (x94, x95, x96, x97, x98, (pAdd .i64 x99 1), x100, x101, x102, ()))) (
 kx (x78, x82, x83, x84, ()))
def zAJ (N : Nat) (a0 : List (Int)) (a1 : List (Int) × Int × Int × Unit) (a2 : Bool) (a3 : Int) (a4 : Int) : Option ((Int × Int × (List (List Int × Int × Unit)) × Int × Int × Bool × Int × Unit) × Int × Int × Unit) :=
 bindO (zBQ N (pLen a0)) fun y69 =>
 ifB y69 (
 some ((0, (0, ([], (0, (0, (false, (0, ()))))))), (0, (2, ())))) (
 bindO (zB2 N a0 a1 a4) fun y70 =>
 bindO (
 ifB (pNot y70) (
 some true) (
 bindO (zB9 N a3) fun y72 =>
 some (pNot y72))) fun y71 =>
 ifB y71 (
 some ((0, (0, ([], (0, (0, (false, (0, ()))))))), (0, (1, ())))) (
 bindO (zAG N a0 a1 a2 a4) fun y73 =>
 bindO (zBM N a3 a4) fun y74 =>
 bindO (idx y73.2.2.2.2.2.1 a1.2.1) fun y75 =>
 loopP (zAJ.l9 N) N (a3, a4, (pMax (pAdd .i64 (pSub .i64 y75.1 a3) 1) 0), y73.2.2.2.1, (pLen y73.2.2.2.1), 0, ((0, (0, ([], (0, (0, (false, (0, ()))))))), (0, (0, ()))), y74, y75, ()) (
 fun d =>
 let x103 := d.1;
 let x104 := d.2.1;
 let x105 := d.2.2.1;
 let x106 := d.2.2.2.1;
 some ((x105.1, (x105.2.1, (x105.2.2.1, ((pSub .i64 x106.1 x103), (x106.2.1, x105.2.2.2.2.2))))), (x103, (0, ()))))))
def zBK (N : Nat) (a0 : Int × Int × (List (List (Int) × Int × Unit)) × Int × Int × Bool × Int × Unit) (a1 : Int × Int × (List (List (Int) × Int × Unit)) × Int × Int × Bool × Int × Unit) : Option (Bool) :=
 bindO (
 ifB (pEq a0.1 a1.1) (
 some (pEq a0.2.1 a1.2.1)) (
 some false)) fun y7 =>
 bindO (
 ifB y7 (
 bindO (zBB N a0.2.2.1 a1.2.2.1) fun y9 =>
 some y9) (
 some false)) fun y8 =>
 bindO (
 ifB y8 (
 some (pEq a0.2.2.2.1 a1.2.2.2.1)) (
 some false)) fun y10 =>
 bindO (
 ifB y10 (
 some (pEq a0.2.2.2.2.1 a1.2.2.2.2.1)) (
 some false)) fun y11 =>
 bindO (
 ifB y11 (
 some (pBeq a0.2.2.2.2.2.1 a1.2.2.2.2.2.1)) (
 some false)) fun y12 =>
 bindO (
 ifB y12 (
 some (pEq a0.2.2.2.2.2.2.1 a1.2.2.2.2.2.2.1)) (
 some false)) fun y13 =>
 some y13
end Go.AE.F
end
