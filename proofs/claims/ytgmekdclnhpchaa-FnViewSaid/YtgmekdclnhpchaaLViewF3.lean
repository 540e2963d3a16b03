/- Functions as they are printed out of the program: plain Lean, nothing is claimed here. -/
import Derived.Test.YtgmekdclnhpchaaLViewF2
noncomputable section
namespace Go.AE.F
open Go.AE
def zAV (N : Nat) (a0 : Int × (List (List (List (Int) × Int × Unit))) × Int × Unit) (a1 : Int) (a2 : Int) : Option (Int × (List (List (List Int × Int × Unit))) × Int × Unit) :=
 bindO (zBE N a1) fun y80 =>
 bindO (idx a0.2.1 (pSub .i64 (pLen a0.2.1) 1)) fun y81 =>
 bindO (idx a0.2.1 (pSub .i64 (pLen a0.2.1) 1)) fun y82 =>
 ifB (pEq y80 0) (
 bindO (
 ifB (pGt (pSub .i64 a0.2.2.1 1) 0) (
 bindO (idx a0.2.1 (pSub .i64 (pLen a0.2.1) 1)) fun y84 =>
 bindO (idx y84 (pSub .i64 (pSub .i64 a0.2.2.1 1) 1)) fun y85 =>
 bindO (idx a0.2.1 (pSub .i64 (pLen a0.2.1) 1)) fun y86 =>
 bindO (idx y86 (pSub .i64 (pSub .i64 a0.2.2.1 1) 1)) fun y87 =>
 bindO (idx a0.2.1 (pSub .i64 (pLen a0.2.1) 1)) fun y88 =>
 bindO (idx y88 (pSub .i64 (pSub .i64 a0.2.2.1 1) 1)) fun y89 =>
 bindO (zBG N y89) fun y90 =>
 some y90) (
 some false)) fun y83 =>
 ifB y83 (
 bindO (
 ifB (pGe (pSub .i64 (pSub .i64 a0.2.2.1 1) 1) 0) (
 bindO (idx a0.2.1 (pSub .i64 (pLen a0.2.1) 1)) fun y92 =>
 bindO (idx y92 (pSub .i64 (pSub .i64 a0.2.2.1 1) 1)) fun y93 =>
 bindO (idx a0.2.1 (pSub .i64 (pLen a0.2.1) 1)) fun y94 =>
 bindO (idx y94 (pSub .i64 (pSub .i64 a0.2.2.1 1) 1)) fun y95 =>
 bindO (idx a0.2.1 (pSub .i64 (pLen a0.2.1) 1)) fun y96 =>
 bindO (idx y96 (pSub .i64 (pSub .i64 a0.2.2.1 1) 1)) fun y97 =>
 some (pGt (pLen y97.1) 0)) (
 some false)) fun y91 =>
 bindO (
 ifB y91 (
 bindO (idx a0.2.1 (pSub .i64 (pLen a0.2.1) 1)) fun y99 =>
 bindO (idx y99 (pSub .i64 (pSub .i64 a0.2.2.1 1) 1)) fun y100 =>
 bindO (idx a0.2.1 (pSub .i64 (pLen a0.2.1) 1)) fun y101 =>
 bindO (idx y101 (pSub .i64 (pSub .i64 a0.2.2.1 1) 1)) fun y102 =>
 bindO (idx a0.2.1 (pSub .i64 (pLen a0.2.1) 1)) fun y103 =>
 bindO (idx y103 (pSub .i64 (pSub .i64 a0.2.2.1 1) 1)) fun y104 =>
 some (pLt (pLen y104.1) 4)) (
 some false)) fun y98 =>
 ifB y98 (
 bindO (idx a0.2.1 (pSub .i64 (pLen a0.2.1) 1)) fun y105 =>
 bindO (idx y105 (pSub .i64 (pSub .i64 a0.2.2.1 1) 1)) fun y106 =>
 bindO (idx a0.2.1 (pSub .i64 (pLen a0.2.1) 1)) fun y107 =>
 bindO (idx y107 (pSub .i64 (pSub .i64 a0.2.2.1 1) 1)) fun y108 =>
 bindO (idx a0.2.1 (pSub .i64 (pLen a0.2.1) 1)) fun y109 =>
 bindO (idx y109 (pSub .i64 (pSub .i64 a0.2.2.1 1) 1)) fun y110 =>
 bindO (zBH N y110.1) fun y111 =>
 ifB (pFit y111 [a1]) (
 bindO (idx a0.2.1 (pSub .i64 (pLen a0.2.1) 1)) fun y112 =>
 bindO (idx y112 (pSub .i64 (pSub .i64 a0.2.2.1 1) 1)) fun y113 =>
 bindO (idx a0.2.1 (pSub .i64 (pLen a0.2.1) 1)) fun y114 =>
 bindO (idx y114 (pSub .i64 (pSub .i64 a0.2.2.1 1) 1)) fun y115 =>
 some (a0.1, ((pSet a0.2.1 (pSub .i64 (pLen a0.2.1) 1) (pSet y114 (pSub .i64 (pSub .i64 a0.2.2.1 1) 1) ((pApp y111 [a1]), y115.2))), a0.2.2))) (
 none)) (
 some a0)) (
 bindO (
 ifB (pGe (pSub .i64 a0.2.2.1 1) 0) (
 bindO (idx a0.2.1 (pSub .i64 (pLen a0.2.1) 1)) fun y117 =>
 bindO (idx y117 (pSub .i64 a0.2.2.1 1)) fun y118 =>
 bindO (idx a0.2.1 (pSub .i64 (pLen a0.2.1) 1)) fun y119 =>
 bindO (idx y119 (pSub .i64 a0.2.2.1 1)) fun y120 =>
 bindO (idx a0.2.1 (pSub .i64 (pLen a0.2.1) 1)) fun y121 =>
 bindO (idx y121 (pSub .i64 a0.2.2.1 1)) fun y122 =>
 some (pGt (pLen y122.1) 0)) (
 some false)) fun y116 =>
 bindO (
 ifB y116 (
 bindO (idx a0.2.1 (pSub .i64 (pLen a0.2.1) 1)) fun y124 =>
 bindO (idx y124 (pSub .i64 a0.2.2.1 1)) fun y125 =>
 bindO (idx a0.2.1 (pSub .i64 (pLen a0.2.1) 1)) fun y126 =>
 bindO (idx y126 (pSub .i64 a0.2.2.1 1)) fun y127 =>
 bindO (idx a0.2.1 (pSub .i64 (pLen a0.2.1) 1)) fun y128 =>
 bindO (idx y128 (pSub .i64 a0.2.2.1 1)) fun y129 =>
 some (pLt (pLen y129.1) 4)) (
 some false)) fun y123 =>
 ifB y123 (
 bindO (idx a0.2.1 (pSub .i64 (pLen a0.2.1) 1)) fun y130 =>
 bindO (idx y130 (pSub .i64 a0.2.2.1 1)) fun y131 =>
 bindO (idx a0.2.1 (pSub .i64 (pLen a0.2.1) 1)) fun y132 =>
 bindO (idx y132 (pSub .i64 a0.2.2.1 1)) fun y133 =>
 bindO (idx a0.2.1 (pSub .i64 (pLen a0.2.1) 1)) fun y134 =>
 bindO (idx y134 (pSub .i64 a0.2.2.1 1)) fun y135 =>
 bindO (zBH N y135.1) fun y136 =>
 ifB (pFit y136 [a1]) (
 bindO (idx a0.2.1 (pSub .i64 (pLen a0.2.1) 1)) fun y137 =>
 bindO (idx y137 (pSub .i64 a0.2.2.1 1)) fun y138 =>
 bindO (idx a0.2.1 (pSub .i64 (pLen a0.2.1) 1)) fun y139 =>
 bindO (idx y139 (pSub .i64 a0.2.2.1 1)) fun y140 =>
 some (a0.1, ((pSet a0.2.1 (pSub .i64 (pLen a0.2.1) 1) (pSet y139 (pSub .i64 a0.2.2.1 1) ((pApp y136 [a1]), y140.2))), a0.2.2))) (
 none)) (
 some a0))) (
 ifB (pLt (pSub .i64 a0.1 a0.2.2.1) y80) (
 bindO (zAL N a0) fun y141 =>
 bindO (idx y141.2.1 (pSub .i64 (pLen y141.2.1) 1)) fun y142 =>
 bindO (idx y141.2.1 (pSub .i64 (pLen y141.2.1) 1)) fun y143 =>
 bindO (idx y141.2.1 (pSub .i64 (pLen y141.2.1) 1)) fun y144 =>
 bindO (idx y144 y141.2.2.1) fun y145 =>
 bindO (idx y141.2.1 (pSub .i64 (pLen y141.2.1) 1)) fun y146 =>
 bindO (idx y146 y141.2.2.1) fun y147 =>
 ifB (pEq y80 2) (
 bindO (idx (pSet y141.2.1 (pSub .i64 (pLen y141.2.1) 1) (pSet y146 y141.2.2.1 ([a1], (a2, ())))) (pSub .i64 (pLen y141.2.1) 1)) fun y148 =>
 bindO (idx y148 (pAdd .i64 y141.2.2.1 1)) fun y149 =>
 bindO (idx (pSet y141.2.1 (pSub .i64 (pLen y141.2.1) 1) (pSet y146 y141.2.2.1 ([a1], (a2, ())))) (pSub .i64 (pLen y141.2.1) 1)) fun y150 =>
 bindO (idx y150 (pAdd .i64 y141.2.2.1 1)) fun y151 =>
 some (y141.1, ((pSet (pSet y141.2.1 (pSub .i64 (pLen y141.2.1) 1) (pSet y146 y141.2.2.1 ([a1], (a2, ())))) (pSub .i64 (pLen y141.2.1) 1) (pSet y150 (pAdd .i64 y141.2.2.1 1) ([], (a2, ())))), ((pAdd .i64 y141.2.2.1 y80), y141.2.2.2)))) (
 some (y141.1, ((pSet y141.2.1 (pSub .i64 (pLen y141.2.1) 1) (pSet y146 y141.2.2.1 ([a1], (a2, ())))), ((pAdd .i64 y141.2.2.1 y80), y141.2.2.2))))) (
 bindO (idx a0.2.1 (pSub .i64 (pLen a0.2.1) 1)) fun y152 =>
 bindO (idx y152 a0.2.2.1) fun y153 =>
 bindO (idx a0.2.1 (pSub .i64 (pLen a0.2.1) 1)) fun y154 =>
 bindO (idx y154 a0.2.2.1) fun y155 =>
 ifB (pEq y80 2) (
 bindO (idx (pSet a0.2.1 (pSub .i64 (pLen a0.2.1) 1) (pSet y154 a0.2.2.1 ([a1], (a2, ())))) (pSub .i64 (pLen a0.2.1) 1)) fun y156 =>
 bindO (idx y156 (pAdd .i64 a0.2.2.1 1)) fun y157 =>
 bindO (idx (pSet a0.2.1 (pSub .i64 (pLen a0.2.1) 1) (pSet y154 a0.2.2.1 ([a1], (a2, ())))) (pSub .i64 (pLen a0.2.1) 1)) fun y158 =>
 bindO (idx y158 (pAdd .i64 a0.2.2.1 1)) fun y159 =>
 some (a0.1, ((pSet (pSet a0.2.1 (pSub .i64 (pLen a0.2.1) 1) (pSet y154 a0.2.2.1 ([a1], (a2, ())))) (pSub .i64 (pLen a0.2.1) 1) (pSet y158 (pAdd .i64 a0.2.2.1 1) ([], (a2, ())))), ((pAdd .i64 a0.2.2.1 y80), a0.2.2.2)))) (
 some (a0.1, ((pSet a0.2.1 (pSub .i64 (pLen a0.2.1) 1) (pSet y154 a0.2.2.1 ([a1], (a2, ())))), ((pAdd .i64 a0.2.2.1 y80), a0.2.2.2))))))
def zA4.l4 {R : Type} (N : Nat) (d : Int × Int × (Int × (List (List (List Int × Int × Unit))) × Int × Unit) × List Int × Unit) (kn : Int × Int × (Int × (List (List (List Int × Int × Unit))) × Int × Unit) × List Int × Unit → Option R) (kx : (Int × (List (List (List Int × Int × Unit))) × Int × Unit) × Unit → Option R) : Option R :=
 let x22 := d.1;
 let x23 := d.2.1;
 let x24 := d.2.2.1;
 let x25 := d.2.2.2.1;
 ifB (pLt x23 (pLen x25)) (
 bindO (idx x25 x23) fun y26 =>
 bindO (idx x25 x23) fun y27 =>
 bindO (zAV N x24 y27 x22) fun y28 =>
 kn (x22, (pAdd .i64 x23 1), y28, x25, ())) (
 kx (x24, ()))
def zA4 (N : Nat) (a0 : Int × (List (List (List (Int) × Int × Unit))) × Int × Unit) (a1 : Int) (a2 : Int) : Option (Int × (List (List (List Int × Int × Unit))) × Int × Unit) :=
 ifB (pEq a1 10) (
 bindO (zAL N a0) fun y20 =>
 some y20) (
 bindO (zBJ N a1) fun y21 =>
 loopP (zA4.l4 N) N (a2, 0, a0, y21, ()) (
 fun d =>
 let x29 := d.1;
 some x29))
def zAO (N : Nat) (a0 : Int × (List (List (List (Int) × Int × Unit))) × Int × Unit) : Option (Int × Int × Unit) :=
 ifB (pGe a0.2.2.1 a0.1) (
 some ((pAdd .i64 (pSub .i64 (pLen a0.2.1) 1) 1), (0, ()))) (
 some ((pSub .i64 (pLen a0.2.1) 1), (a0.2.2.1, ())))
def zA9.l4 {R : Type} (N : Nat) (d : List Int × Bool × Int × (List Int × Int × Int × Unit) × (Int × (List (List (List Int × Int × Unit))) × Int × Unit) × Unit) (kn : List Int × Bool × Int × (List Int × Int × Int × Unit) × (Int × (List (List (List Int × Int × Unit))) × Int × Unit) × Unit → Option R) (kx : Bool × (List Int × Int × Int × Unit) × (Int × (List (List (List Int × Int × Unit))) × Int × Unit) × Unit → Option R) : Option R :=
 let x70 := d.1;
 let x71 := d.2.1;
 let x72 := d.2.2.1;
 let x73 := d.2.2.2.1;
 let x74 := d.2.2.2.2.1;
 ifB (pLt x72 (pLen x70)) (
 bindO (idx x70 x72) fun y75 =>
 bindO (zA4 N x74 y75 0) fun y76 =>
 kn (x70, x71, (pAdd .i64 x72 1), x73, y76, ())) (
 kx (x71, x73, x74, ()))
def zA9.l11 {R : Type} (N : Nat) (d : Bool × Int × Int × Int × (List Int × Int × Int × Unit) × (Int × (List (List (List Int × Int × Unit))) × Int × Unit) × (List (Int × Int × Unit)) × Unit) (kn : Bool × Int × Int × Int × (List Int × Int × Int × Unit) × (Int × (List (List (List Int × Int × Unit))) × Int × Unit) × (List (Int × Int × Unit)) × Unit → Option R) (kx : (Int × (List (List (List Int × Int × Unit))) × Int × Unit) × (List (Int × Int × Unit)) × Unit → Option R) : Option R :=
 let x83 := d.1;
 let x84 := d.2.1;
 let x85 := d.2.2.1;
 let x86 := d.2.2.2.1;
 let x87 := d.2.2.2.2.1;
 let x88 := d.2.2.2.2.2.1;
 let x89 := d.2.2.2.2.2.2.1;
 ifB (pLt x86 (pLen x87.1)) (
 bindO (A := Bool × Int × Int × Int × (List Int × Int × Int × Unit) × (Int × (List (List (List Int × Int × Unit))) × Int × Unit) × (List (Int × Int × Unit)) × Unit) (
 bindO (
 ifB x83 (
 some (pGe x86 x84)) (
 some false)) fun y90 =>
 bindO (
 ifB y90 (
 some (pLt x86 x85)) (
 some false)) fun y91 =>
 ifB y91 (
 bindO (idx x87.1 x86) fun y92 =>
 bindO (zA4 N x88 y92 1) fun y93 =>
 bindO (zAO N y93) fun y94 =>
 ifB (pFit x89 [y94]) (
 some (x83, x84, x85, x86, x87, y93, (pApp x89 [y94]), ())) (
 none)) (
 bindO (idx x87.1 x86) fun y95 =>
 bindO (zA4 N x88 y95 0) fun y96 =>
 bindO (zAO N y96) fun y97 =>
 ifB (pFit x89 [y97]) (
 some (x83, x84, x85, x86, x87, y96, (pApp x89 [y97]), ())) (
 none))) (
 fun d =>
 let x98 := d.1;
 let x99 := d.2.1;
 let x100 := d.2.2.1;
 let x101 := d.2.2.2.1;
 let x102 := d.2.2.2.2.1;
 let x103 := d.2.2.2.2.2.1;
 let x104 := d.2.2.2.2.2.2.1;
 kn (x98, x99, x100, (pAdd .i64 x101 1), x102, x103, x104, ()))) (
 kx (x88, x89, ()))
def zA9 (N : Nat) (a0 : List (Int)) (a1 : List (Int) × Int × Int × Unit) (a2 : Bool) (a3 : Int) : Option ((Int × (List (List (List Int × Int × Unit))) × Int × Unit) × List (Int × Int × Unit)) :=
 bindO (zAL N (a3, ([], (0, ())))) fun y69 =>
 loopP (zA9.l4 N) N (a0, a2, 0, a1, y69, ()) (
 fun d =>
 let x77 := d.1;
 let x78 := d.2.1;
 let x79 := d.2.2.1;
 bindO (zAO N x79) fun y80 =>
 bindO (zBP N x78.2.1 x78.2.2.1) fun y81 =>
 bindO (zBD N x78.2.1 x78.2.2.1) fun y82 =>
 loopP (zA9.l11 N) N (x77, y81, y82, 0, x78, x79, [y80], ()) (
 fun d =>
 let x105 := d.1;
 let x106 := d.2.1;
 some (x105, x106)))
def zBF (N : Nat) (a0 : List (Int)) (a1 : List (Int) × Int × Int × Unit) (a2 : Int) (a3 : Int) : Option (Int × Int × Unit) :=
 bindO (zB2 N a0 a1 a3) fun y5 =>
 bindO (
 ifB (pNot y5) (
 some true) (
 bindO (zAT N a1 a2) fun y7 =>
 some (pNot y7))) fun y6 =>
 ifB y6 (
 some (0, (0, ()))) (
 bindO (zAG N a0 a1 false a3) fun y8 =>
 bindO (idx y8.2.2.2.2.2.1 a2) fun y9 =>
 some y9)
def zBT (N : Nat) (a0 : List (Int)) (a1 : List (Int) × Int × Int × Unit) (a2 : Int) (a3 : Int) : Option (Int × Int × Unit) :=
 bindO (
 ifB (pGt (pLen a0) 400) (
 some true) (
 bindO (zA7 N a0) fun y11 =>
 some (pNot y11))) fun y10 =>
 bindO (
 ifB y10 (
 some true) (
 bindO (zBC N a1) fun y13 =>
 some (pNot y13))) fun y12 =>
 bindO (
 ifB y12 (
 some true) (
 bindO (zB4 N 1 a3) fun y15 =>
 some (pNot y15))) fun y14 =>
 bindO (
 ifB y14 (
 some true) (
 some (pLt a2 0))) fun y16 =>
 bindO (
 ifB y16 (
 some true) (
 some (pGt a2 (pLen a1.1)))) fun y17 =>
 ifB y17 (
 some (0, (0, ()))) (
 bindO (zA9 N a0 a1 false a3) fun y18 =>
 bindO (idx y18.2 a2) fun y19 =>
 some y19)
def zB9 (N : Nat) (a0 : Int) : Option (Bool) :=
 bindO (zAI N a0 1 24) fun y1 =>
 some y1
def zAK (N : Nat) (a0 : List (List (Int) × Int × Unit)) : Option (Int) :=
 some (pLen a0)
def zAD.l2 {R : Type} (N : Nat) (d : List Int × Int × Int × (List Int × Int × Unit) × Unit) (kn : List Int × Int × Int × (List Int × Int × Unit) × Unit → Option R) (kx : ((List Int × Int × Unit) × Unit) ⊕ (Bool × Unit) → Option R) : Option R :=
 let x30 := d.1;
 let x31 := d.2.1;
 let x32 := d.2.2.1;
 let x33 := d.2.2.2.1;
 ifB (pLt x32 x31) (
 bindO (idx x30 x32) fun y34 =>
 bindO (zB8 N y34) fun y35 =>
 bindO (
 ifB (pNot y35) (
 some true) (
 bindO (zAZ N y34) fun y37 =>
 some y37)) fun y36 =>
 bindO (
 ifB y36 (
 some true) (
 bindO (zAF N y34) fun y39 =>
 some (pNot (pBeq (pEq x32 0) (pGt y39 0))))) fun y38 =>
 ifB y38 (
 kx (.inr (false, ()))) (
 kn (x30, x31, (pAdd .i64 x32 1), x33, ()))) (
 kx (.inl (x33, ())))
def zAD (N : Nat) (a0 : List (Int) × Int × Unit) : Option (Bool) :=
 loopP (zAD.l2 N) N (a0.1, (pLen a0.1), 0, a0, ()) (
 onSum (fun d =>
 let x40 := d.1;
 bindO (
 ifB (pLe (pLen x40.1) 4) (
 bindO (zAI N x40.2.1 0 3) fun y42 =>
 some y42) (
 some false)) fun y41 =>
 some y41) (
 fun d =>
 let x43 := d.1;
 some x43))
def zAP (N : Nat) (a0 : List (Int) × Int × Unit) : Option (Bool) :=
 bindO (
 ifB (pGt (pLen a0.1) 0) (
 bindO (idx a0.1 0) fun y4 =>
 bindO (zAF N y4) fun y5 =>
 some (pEq y5 2)) (
 some false)) fun y3 =>
 some y3
def zAQ (N : Nat) (a0 : List (Int) × Int × Unit) : Option (Bool) :=
 some (pEq (pLen a0.1) 0)
def zAA.l4 {R : Type} (N : Nat) (d : (List (List Int × Int × Unit)) × Int × Int × (Int × Int × (List (List Int × Int × Unit)) × Int × Int × Bool × Int × Unit) × Unit) (kn : (List (List Int × Int × Unit)) × Int × Int × (Int × Int × (List (List Int × Int × Unit)) × Int × Int × Bool × Int × Unit) × Unit → Option R) (kx : (Unit) ⊕ (Bool × Unit) → Option R) : Option R :=
 let x45 := d.1;
 let x46 := d.2.1;
 let x47 := d.2.2.1;
 let x48 := d.2.2.2.1;
 ifB (pLt x47 x46) (
 bindO (A := ((List (List Int × Int × Unit)) × Int × Int × (Int × Int × (List (List Int × Int × Unit)) × Int × Int × Bool × Int × Unit) × Unit) ⊕ (Bool × Unit)) (
 bindO (idx x45 x47) fun y49 =>
 bindO (zAD N y49) fun y50 =>
 ifB (pNot y50) (
 some (.inr (false, ()))) (
 bindO (zAP N y49) fun y51 =>
 ifB (pNot y51) (
 some (.inl (x45, x46, x47, x48, ()))) (
 ifB (pEq x48.2.1 0) (
 none) (
 ifB (pEq (pRem (pAdd .i64 x47 1) x48.2.1) 0) (
 some (.inr (false, ()))) (
 bindO (idx x48.2.2.1 (pAdd .i64 x47 1)) fun y52 =>
 bindO (zAQ N y52) fun y53 =>
 ifB (pNot y53) (
 some (.inr (false, ()))) (
 bindO (idx x48.2.2.1 (pAdd .i64 x47 1)) fun y54 =>
 ifB (pNe y54.2.1 y49.2.1) (
 some (.inr (false, ()))) (
 some (.inl (x45, x46, x47, x48, ()))))))))) (
 onSum (fun d =>
 let x55 := d.1;
 let x56 := d.2.1;
 let x57 := d.2.2.1;
 let x58 := d.2.2.2.1;
 kn (x55, x56, (pAdd .i64 x57 1), x58, ())) (
 fun d =>
 let x59 := d.1;
 kx (.inr (x59, ()))))) (
 kx (.inl (())))
end Go.AE.F
end
