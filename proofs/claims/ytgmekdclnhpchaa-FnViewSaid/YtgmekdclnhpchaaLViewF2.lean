/- Functions as they are printed out of the program: plain Lean, nothing is claimed here. -/
import Derived.Test.YtgmekdclnhpchaaLViewF1
noncomputable section
namespace Go.AE.F
open Go.AE
def zAZ (N : Nat) (a0 : Int) : Option (Bool) :=
 bindO (
 ifB (pLt a0 32) (
 some true) (
 some (pEq a0 127))) fun y1 =>
 some y1
def zBS (N : Nat) (a0 : Int) : Option (List Int) :=
 bindO (zAZ N a0) fun y1 =>
 ifB y1 (
 some [94, (pXor .i64 a0 64)]) (
 some [a0])
def zAF.l6 {R : Type} (N : Nat) (d : Int × Int × Int × (List (Int × Int × Unit × Unit)) × Unit) (kn : Int × Int × Int × (List (Int × Int × Unit × Unit)) × Unit → Option R) (kx : (Unit) ⊕ (Int × Unit) → Option R) : Option R :=
 let x26 := d.1;
 let x27 := d.2.1;
 let x28 := d.2.2.1;
 let x29 := d.2.2.2.1;
 ifB (pLt x28 x27) (
 bindO (idx x29 x28) fun y30 =>
 bindO (idx x29 x28) fun y31 =>
 bindO (zAI N x26 y31.1 y31.2.1) fun y32 =>
 ifB y32 (
 kx (.inr (2, ()))) (
 kn (x26, x27, (pAdd .i64 x28 1), x29, ()))) (
 kx (.inl (())))
def zAF (N : Nat) (a0 : Int) : Option (Int) :=
 bindO (zB8 N a0) fun y22 =>
 bindO (
 ifB (pNot y22) (
 some true) (
 bindO (zAI N a0 768 879) fun y24 =>
 some y24)) fun y23 =>
 ifB y23 (
 some 0) (
 bindO (zAZ N a0) fun y25 =>
 ifB y25 (
 some 2) (
 loopP (zAF.l6 N) N (a0, (pLen [(4352, (4447, ((), ()))), (11904, (42191, ((), ()))), (44032, (55203, ((), ()))), (63744, (64255, ((), ()))), (65281, (65376, ((), ()))), (127744, (129791, ((), ())))]), 0, [(4352, (4447, ((), ()))), (11904, (42191, ((), ()))), (44032, (55203, ((), ()))), (63744, (64255, ((), ()))), (65281, (65376, ((), ()))), (127744, (129791, ((), ())))], ()) (
 onSum (fun d =>
 some 1) (
 fun d =>
 let x33 := d.1;
 some x33))))
def zA6.l3 {R : Type} (N : Nat) (d : Int × Int × Int × (Int × Int × Int × (List ((List Int × Int × Unit) × Int × Int × Unit)) × Bool × (List (Int × Int × Unit)) × Unit) × List Int × Unit) (kn : Int × Int × Int × (Int × Int × Int × (List ((List Int × Int × Unit) × Int × Int × Unit)) × Bool × (List (Int × Int × Unit)) × Unit) × List Int × Unit → Option R) (kx : (Int × Int × Int × (List ((List Int × Int × Unit) × Int × Int × Unit)) × Bool × (List (Int × Int × Unit)) × Unit) × Unit → Option R) : Option R :=
 let x45 := d.1;
 let x46 := d.2.1;
 let x47 := d.2.2.1;
 let x48 := d.2.2.2.1;
 let x49 := d.2.2.2.2.1;
 ifB (pLt x47 x46) (
 bindO (A := Int × Int × Int × (Int × Int × Int × (List ((List Int × Int × Unit) × Int × Int × Unit)) × Bool × (List (Int × Int × Unit)) × Unit) × List Int × Unit) (
 bindO (idx x49 x47) fun y50 =>
 bindO (idx x49 x47) fun y51 =>
 bindO (zAF N y51) fun y52 =>
 ifB (pEq y52 0) (
 ifB x48.2.2.2.2.1 (
 bindO (idx x48.2.2.2.1 (pSub .i64 (pLen x48.2.2.2.1) 1)) fun y53 =>
 bindO (idx x48.2.2.2.1 (pSub .i64 (pLen x48.2.2.2.1) 1)) fun y54 =>
 bindO (idx x48.2.2.2.1 (pSub .i64 (pLen x48.2.2.2.1) 1)) fun y55 =>
 ifB (pLt (pLen y55.1.1) 4) (
 bindO (idx x48.2.2.2.1 (pSub .i64 (pLen x48.2.2.2.1) 1)) fun y56 =>
 bindO (idx x48.2.2.2.1 (pSub .i64 (pLen x48.2.2.2.1) 1)) fun y57 =>
 ifB (pFit y57.1.1 [y51]) (
 bindO (idx x48.2.2.2.1 (pSub .i64 (pLen x48.2.2.2.1) 1)) fun y58 =>
 ifB (pEq (pSub .i64 (pLen x48.2.2.2.1) 1) (pSub .i64 (pLen x48.2.2.2.1) 1)) (
 some (x45, x46, x47, (x48.1, (x48.2.1, (x48.2.2.1, ((pSet x48.2.2.2.1 (pSub .i64 (pLen x48.2.2.2.1) 1) (((pApp y57.1.1 [y51]), y58.1.2), y58.2)), x48.2.2.2.2)))), x49, ())) (
 none)) (
 none)) (
 some (x45, x46, x47, x48, x49, ()))) (
 some (x45, x46, x47, x48, x49, ()))) (
 ifB (pLt (pSub .i64 x48.1 x48.2.2.1) y52) (
 bindO (zAY N x48) fun y59 =>
 ifB (pFit y59.2.2.2.1 [(([y51], (x45, ())), (y59.2.1, (y59.2.2.1, ())))]) (
 some (x45, x46, x47, (y59.1, (y59.2.1, ((pAdd .i64 y59.2.2.1 y52), ((pApp y59.2.2.2.1 [(([y51], (x45, ())), (y59.2.1, (y59.2.2.1, ())))]), (true, y59.2.2.2.2.2))))), x49, ())) (
 none)) (
 ifB (pFit x48.2.2.2.1 [(([y51], (x45, ())), (x48.2.1, (x48.2.2.1, ())))]) (
 some (x45, x46, x47, (x48.1, (x48.2.1, ((pAdd .i64 x48.2.2.1 y52), ((pApp x48.2.2.2.1 [(([y51], (x45, ())), (x48.2.1, (x48.2.2.1, ())))]), (true, x48.2.2.2.2.2))))), x49, ())) (
 none)))) (
 fun d =>
 let x60 := d.1;
 let x61 := d.2.1;
 let x62 := d.2.2.1;
 let x63 := d.2.2.2.1;
 let x64 := d.2.2.2.2.1;
 kn (x60, x61, (pAdd .i64 x62 1), x63, x64, ()))) (
 kx (x48, ()))
def zA6 (N : Nat) (a0 : Int × Int × Int × (List ((List (Int) × Int × Unit) × Int × Int × Unit)) × Bool × (List (Int × Int × Unit)) × Unit) (a1 : Int) (a2 : Int) : Option (Int × Int × Int × (List ((List Int × Int × Unit) × Int × Int × Unit)) × Bool × (List (Int × Int × Unit)) × Unit) :=
 ifB (pEq a1 10) (
 bindO (zAY N a0) fun y43 =>
 some y43) (
 bindO (zBS N a1) fun y44 =>
 loopP (zA6.l3 N) N (a2, (pLen y44), 0, a0, y44, ()) (
 fun d =>
 let x65 := d.1;
 some x65))
def zB5 (N : Nat) (a0 : List (Int) × Int × Int × Unit) : Option (Int × Int) :=
 some ((pMin a0.2.2.1 a0.2.1), (pMax a0.2.2.1 a0.2.1))
def zAS (N : Nat) (a0 : Int × Int × Int × (List ((List (Int) × Int × Unit) × Int × Int × Unit)) × Bool × (List (Int × Int × Unit)) × Unit) : Option (Int × Int × Unit) :=
 ifB (pEq a0.2.2.1 a0.1) (
 some ((pAdd .i64 a0.2.1 1), (0, ()))) (
 some (a0.2.1, (a0.2.2.1, ())))
def zAG.l3 {R : Type} (N : Nat) (d : Bool × List Int × Int × Int × (List Int × Int × Int × Unit) × (Int × Int × Int × (List ((List Int × Int × Unit) × Int × Int × Unit)) × Bool × (List (Int × Int × Unit)) × Unit) × Unit) (kn : Bool × List Int × Int × Int × (List Int × Int × Int × Unit) × (Int × Int × Int × (List ((List Int × Int × Unit) × Int × Int × Unit)) × Bool × (List (Int × Int × Unit)) × Unit) × Unit → Option R) (kx : Bool × (List Int × Int × Int × Unit) × (Int × Int × Int × (List ((List Int × Int × Unit) × Int × Int × Unit)) × Bool × (List (Int × Int × Unit)) × Unit) × Unit → Option R) : Option R :=
 let x64 := d.1;
 let x65 := d.2.1;
 let x66 := d.2.2.1;
 let x67 := d.2.2.2.1;
 let x68 := d.2.2.2.2.1;
 let x69 := d.2.2.2.2.2.1;
 ifB (pLt x67 x66) (
 bindO (idx x65 x67) fun y70 =>
 bindO (zA6 N x69 y70 0) fun y71 =>
 kn (x64, x65, x66, (pAdd .i64 x67 1), x68, y71, ())) (
 kx (x64, x68, x69, ()))
def zAG.l9 {R : Type} (N : Nat) (d : Bool × Int × Int × List Int × Int × Int × (Int × Int × Int × (List ((List Int × Int × Unit) × Int × Int × Unit)) × Bool × (List (Int × Int × Unit)) × Unit) × Unit) (kn : Bool × Int × Int × List Int × Int × Int × (Int × Int × Int × (List ((List Int × Int × Unit) × Int × Int × Unit)) × Bool × (List (Int × Int × Unit)) × Unit) × Unit → Option R) (kx : (Int × Int × Int × (List ((List Int × Int × Unit) × Int × Int × Unit)) × Bool × (List (Int × Int × Unit)) × Unit) × Unit → Option R) : Option R :=
 let x76 := d.1;
 let x77 := d.2.1;
 let x78 := d.2.2.1;
 let x79 := d.2.2.2.1;
 let x80 := d.2.2.2.2.1;
 let x81 := d.2.2.2.2.2.1;
 let x82 := d.2.2.2.2.2.2.1;
 ifB (pLt x81 x80) (
 bindO (A := Bool × Int × Int × List Int × Int × Int × (Int × Int × Int × (List ((List Int × Int × Unit) × Int × Int × Unit)) × Bool × (List (Int × Int × Unit)) × Unit) × Unit) (
 bindO (idx x79 x81) fun y83 =>
 bindO (zAS N x82) fun y84 =>
 ifB (pFit x82.2.2.2.2.2.1 [y84]) (
 bindO (
 ifB x76 (
 bindO (zAI N x81 x77 (pSub .i64 x78 1)) fun y86 =>
 some y86) (
 some false)) fun y85 =>
 ifB y85 (
 bindO (zA6 N (x82.1, (x82.2.1, (x82.2.2.1, (x82.2.2.2.1, (x82.2.2.2.2.1, ((pApp x82.2.2.2.2.2.1 [y84]), x82.2.2.2.2.2.2)))))) y83 1) fun y87 =>
 some (x76, x77, x78, x79, x80, x81, y87, ())) (
 bindO (zA6 N (x82.1, (x82.2.1, (x82.2.2.1, (x82.2.2.2.1, (x82.2.2.2.2.1, ((pApp x82.2.2.2.2.2.1 [y84]), x82.2.2.2.2.2.2)))))) y83 0) fun y88 =>
 some (x76, x77, x78, x79, x80, x81, y88, ()))) (
 none)) (
 fun d =>
 let x89 := d.1;
 let x90 := d.2.1;
 let x91 := d.2.2.1;
 let x92 := d.2.2.2.1;
 let x93 := d.2.2.2.2.1;
 let x94 := d.2.2.2.2.2.1;
 let x95 := d.2.2.2.2.2.2.1;
 kn (x89, x90, x91, x92, x93, (pAdd .i64 x94 1), x95, ()))) (
 kx (x82, ()))
def zAG (N : Nat) (a0 : List (Int)) (a1 : List (Int) × Int × Int × Unit) (a2 : Bool) (a3 : Int) : Option (Int × Int × Int × (List ((List Int × Int × Unit) × Int × Int × Unit)) × Bool × (List (Int × Int × Unit)) × Unit) :=
 loopP (zAG.l3 N) N (a2, a0, (pLen a0), 0, a1, (a3, (0, (0, ([], (false, ([], ())))))), ()) (
 fun d =>
 let x72 := d.1;
 let x73 := d.2.1;
 let x74 := d.2.2.1;
 bindO (zB5 N x73) fun y75 =>
 loopP (zAG.l9 N) N (x72, y75.1, y75.2, x73.1, (pLen x73.1), 0, x74, ()) (
 fun d =>
 let x96 := d.1;
 bindO (zAS N x96) fun y97 =>
 ifB (pFit x96.2.2.2.2.2.1 [y97]) (
 some (x96.1, (x96.2.1, (x96.2.2.1, (x96.2.2.2.1, (x96.2.2.2.2.1, ((pApp x96.2.2.2.2.2.1 [y97]), x96.2.2.2.2.2.2))))))) (
 none)))
def zBL (N : Nat) (a0 : List (Int)) (a1 : List (Int) × Int × Int × Unit) (a2 : Int) : Option (Int) :=
 bindO (zB2 N a0 a1 a2) fun y3 =>
 ifB (pNot y3) (
 some 0) (
 bindO (zAG N a0 a1 false a2) fun y4 =>
 bindO (zAS N y4) fun y5 =>
 some (pAdd .i64 y5.1 1))
def zB4 (N : Nat) (a0 : Int) (a1 : Int) : Option (Bool) :=
 bindO (
 ifB (pGe a0 1) (
 some (pLe a0 24)) (
 some false)) fun y3 =>
 bindO (
 ifB y3 (
 some (pGe a1 2)) (
 some false)) fun y4 =>
 bindO (
 ifB y4 (
 some (pLe a1 80)) (
 some false)) fun y5 =>
 some y5
def zAL (N : Nat) (a0 : Int × (List (List (List (Int) × Int × Unit))) × Int × Unit) : Option (Int × (List (List (List Int × Int × Unit))) × Int × Unit) :=
 ifB (pEq a0.1 a0.1) (
 ifB (pLe 0 a0.1) (
 ifB (pLe a0.1 68719476736) (
 ifB (pFit a0.2.1 [(pRepl a0.1 ([], (0, ())))]) (
 some (a0.1, ((pApp a0.2.1 [(pRepl a0.1 ([], (0, ())))]), (0, a0.2.2.2)))) (
 none)) (
 none)) (
 none)) (
 none)
def zBJ (N : Nat) (a0 : Int) : Option (List Int) :=
 bindO (
 ifB (pLt a0 32) (
 some true) (
 some (pEq a0 127))) fun y1 =>
 ifB y1 (
 some [94, (pXor .i64 a0 64)]) (
 some [a0])
def zBE (N : Nat) (a0 : Int) : Option (Int) :=
 bindO (zB7 N a0) fun y16 =>
 bindO (
 ifB (pNot y16) (
 some true) (
 bindO (
 ifB (pGe a0 768) (
 some (pLe a0 879)) (
 some false)) fun y18 =>
 some y18)) fun y17 =>
 ifB y17 (
 some 0) (
 bindO (
 ifB (pLt a0 32) (
 some true) (
 some (pEq a0 127))) fun y19 =>
 bindO (
 ifB y19 (
 some true) (
 bindO (
 ifB (pGe a0 4352) (
 some (pLe a0 4447)) (
 some false)) fun y21 =>
 some y21)) fun y20 =>
 bindO (
 ifB y20 (
 some true) (
 bindO (
 ifB (pGe a0 11904) (
 some (pLe a0 42191)) (
 some false)) fun y23 =>
 some y23)) fun y22 =>
 bindO (
 ifB y22 (
 some true) (
 bindO (
 ifB (pGe a0 44032) (
 some (pLe a0 55203)) (
 some false)) fun y25 =>
 some y25)) fun y24 =>
 bindO (
 ifB y24 (
 some true) (
 bindO (
 ifB (pGe a0 63744) (
 some (pLe a0 64255)) (
 some false)) fun y27 =>
 some y27)) fun y26 =>
 bindO (
 ifB y26 (
 some true) (
 bindO (
 ifB (pGe a0 65281) (
 some (pLe a0 65376)) (
 some false)) fun y29 =>
 some y29)) fun y28 =>
 bindO (
 ifB y28 (
 some true) (
 bindO (
 ifB (pGe a0 127744) (
 some (pLe a0 129791)) (
 some false)) fun y31 =>
 some y31)) fun y30 =>
 ifB y30 (
 some 2) (
 some 1))
def zBG (N : Nat) (a0 : List (Int) × Int × Unit) : Option (Bool) :=
 bindO (
 ifB (pGt (pLen a0.1) 0) (
 bindO (idx a0.1 0) fun y4 =>
 bindO (zBE N y4) fun y5 =>
 some (pEq y5 2)) (
 some false)) fun y3 =>
 some y3
end Go.AE.F
end
