/- Functions as they are printed out of the program: plain Lean, nothing is claimed here. -/
import Derived.Test.YtjdehlkgnbcedaaLSpotsF2
noncomputable section
namespace Go.AE.F
open Go.AE
def spec_l09Pen_shown (N : Nat) (a0 : Int × (List (List (List (Int) × Int × Unit))) × Int × Unit) (a1 : Int) (a2 : Int) : Option (Int × (List (List (List Int × Int × Unit))) × Int × Unit) :=
 bindO (spec_WidthOf N a1) fun y80 =>
 bindO (idx a0.2.1 (pSub .i64 (pLen a0.2.1) 1)) fun y81 =>
 bindO (idx a0.2.1 (pSub .i64 (pLen a0.2.1) 1)) fun y82 =>
 ifB (pEq y80 0) (
 bindO (
 ifB (pGt (pSub .i64 a0.2.2.1 1) 0) (
 bindO (idx a0.2.1 (pSub .i64 (pLen a0.2.1) 1)) fun y84 =>
 bindO (idx y84 (pSub .i64 (pSub .i64 a0.2.2.1 1) 1)) fun y85 =>
 bindO (idx a0.2.1 (pSub .i64 (pLen a0.2.1) 1)) fun y86 =>
 bindO (idx y86 (pSub .i64 (pSub .i64 a0.2.2.1 1) 1)) fun y87 =>
 bindO (idx a0.2.1 (pSub .i64 (pLen a0.2.1) 1)) fun y88 =>
 bindO (idx y88 (pSub .i64 (pSub .i64 a0.2.2.1 1) 1)) fun y89 =>
 bindO (spec_l08Wide N y89) fun y90 =>
 some y90) (
 some false)) fun y83 =>
 ifB y83 (
 bindO (
 ifB (pGe (pSub .i64 (pSub .i64 a0.2.2.1 1) 1) 0) (
 bindO (idx a0.2.1 (pSub .i64 (pLen a0.2.1) 1)) fun y92 =>
 bindO (idx y92 (pSub .i64 (pSub .i64 a0.2.2.1 1) 1)) fun y93 =>
 bindO (idx a0.2.1 (pSub .i64 (pLen a0.2.1) 1)) fun y94 =>
 bindO (idx y94 (pSub .i64 (pSub .i64 a0.2.2.1 1) 1)) fun y95 =>
 bindO (idx a0.2.1 (pSub .i64 (pLen a0.2.1) 1)) fun y96 =>
 bindO (idx y96 (pSub .i64 (pSub .i64 a0.2.2.1 1) 1)) fun y97 =>
 some (pGt (pLen y97.1) 0)) (
 some false)) fun y91 =>
 bindO (
 ifB y91 (
 bindO (idx a0.2.1 (pSub .i64 (pLen a0.2.1) 1)) fun y99 =>
 bindO (idx y99 (pSub .i64 (pSub .i64 a0.2.2.1 1) 1)) fun y100 =>
 bindO (idx a0.2.1 (pSub .i64 (pLen a0.2.1) 1)) fun y101 =>
 bindO (idx y101 (pSub .i64 (pSub .i64 a0.2.2.1 1) 1)) fun y102 =>
 bindO (idx a0.2.1 (pSub .i64 (pLen a0.2.1) 1)) fun y103 =>
 bindO (idx y103 (pSub .i64 (pSub .i64 a0.2.2.1 1) 1)) fun y104 =>
 some (pLt (pLen y104.1) 4)) (
 some false)) fun y98 =>
 ifB y98 (
 bindO (idx a0.2.1 (pSub .i64 (pLen a0.2.1) 1)) fun y105 =>
 bindO (idx y105 (pSub .i64 (pSub .i64 a0.2.2.1 1) 1)) fun y106 =>
 bindO (idx a0.2.1 (pSub .i64 (pLen a0.2.1) 1)) fun y107 =>
 bindO (idx y107 (pSub .i64 (pSub .i64 a0.2.2.1 1) 1)) fun y108 =>
 bindO (idx a0.2.1 (pSub .i64 (pLen a0.2.1) 1)) fun y109 =>
 bindO (idx y109 (pSub .i64 (pSub .i64 a0.2.2.1 1) 1)) fun y110 =>
 bindO (spec_l01Copy N y110.1) fun y111 =>
 ifB (pFit y111 [a1]) (
 bindO (idx a0.2.1 (pSub .i64 (pLen a0.2.1) 1)) fun y112 =>
 bindO (idx y112 (pSub .i64 (pSub .i64 a0.2.2.1 1) 1)) fun y113 =>
 bindO (idx a0.2.1 (pSub .i64 (pLen a0.2.1) 1)) fun y114 =>
 bindO (idx y114 (pSub .i64 (pSub .i64 a0.2.2.1 1) 1)) fun y115 =>
 some (a0.1, ((pSet a0.2.1 (pSub .i64 (pLen a0.2.1) 1) (pSet y114 (pSub .i64 (pSub .i64 a0.2.2.1 1) 1) ((pApp y111 [a1]), y115.2))), a0.2.2))) (
 none)) (
 some a0)) (
 bindO (
 ifB (pGe (pSub .i64 a0.2.2.1 1) 0) (
 bindO (idx a0.2.1 (pSub .i64 (pLen a0.2.1) 1)) fun y117 =>
 bindO (idx y117 (pSub .i64 a0.2.2.1 1)) fun y118 =>
 bindO (idx a0.2.1 (pSub .i64 (pLen a0.2.1) 1)) fun y119 =>
 bindO (idx y119 (pSub .i64 a0.2.2.1 1)) fun y120 =>
 bindO (idx a0.2.1 (pSub .i64 (pLen a0.2.1) 1)) fun y121 =>
 bindO (idx y121 (pSub .i64 a0.2.2.1 1)) fun y122 =>
 some (pGt (pLen y122.1) 0)) (
 some false)) fun y116 =>
 bindO (
 ifB y116 (
 bindO (idx a0.2.1 (pSub .i64 (pLen a0.2.1) 1)) fun y124 =>
 bindO (idx y124 (pSub .i64 a0.2.2.1 1)) fun y125 =>
 bindO (idx a0.2.1 (pSub .i64 (pLen a0.2.1) 1)) fun y126 =>
 bindO (idx y126 (pSub .i64 a0.2.2.1 1)) fun y127 =>
 bindO (idx a0.2.1 (pSub .i64 (pLen a0.2.1) 1)) fun y128 =>
 bindO (idx y128 (pSub .i64 a0.2.2.1 1)) fun y129 =>
 some (pLt (pLen y129.1) 4)) (
 some false)) fun y123 =>
 ifB y123 (
 bindO (idx a0.2.1 (pSub .i64 (pLen a0.2.1) 1)) fun y130 =>
 bindO (idx y130 (pSub .i64 a0.2.2.1 1)) fun y131 =>
 bindO (idx a0.2.1 (pSub .i64 (pLen a0.2.1) 1)) fun y132 =>
 bindO (idx y132 (pSub .i64 a0.2.2.1 1)) fun y133 =>
 bindO (idx a0.2.1 (pSub .i64 (pLen a0.2.1) 1)) fun y134 =>
 bindO (idx y134 (pSub .i64 a0.2.2.1 1)) fun y135 =>
 bindO (spec_l01Copy N y135.1) fun y136 =>
 ifB (pFit y136 [a1]) (
 bindO (idx a0.2.1 (pSub .i64 (pLen a0.2.1) 1)) fun y137 =>
 bindO (idx y137 (pSub .i64 a0.2.2.1 1)) fun y138 =>
 bindO (idx a0.2.1 (pSub .i64 (pLen a0.2.1) 1)) fun y139 =>
 bindO (idx y139 (pSub .i64 a0.2.2.1 1)) fun y140 =>
 some (a0.1, ((pSet a0.2.1 (pSub .i64 (pLen a0.2.1) 1) (pSet y139 (pSub .i64 a0.2.2.1 1) ((pApp y136 [a1]), y140.2))), a0.2.2))) (
 none)) (
 some a0))) (
 ifB (pLt (pSub .i64 a0.1 a0.2.2.1) y80) (
 bindO (spec_l09Pen_next N a0) fun y141 =>
 bindO (idx y141.2.1 (pSub .i64 (pLen y141.2.1) 1)) fun y142 =>
 bindO (idx y141.2.1 (pSub .i64 (pLen y141.2.1) 1)) fun y143 =>
 bindO (idx y141.2.1 (pSub .i64 (pLen y141.2.1) 1)) fun y144 =>
 bindO (idx y144 y141.2.2.1) fun y145 =>
 bindO (idx y141.2.1 (pSub .i64 (pLen y141.2.1) 1)) fun y146 =>
 bindO (idx y146 y141.2.2.1) fun y147 =>
 ifB (pEq y80 2) (
 bindO (idx (pSet y141.2.1 (pSub .i64 (pLen y141.2.1) 1) (pSet y146 y141.2.2.1 ([a1], (a2, ())))) (pSub .i64 (pLen y141.2.1) 1)) fun y148 =>
 bindO (idx y148 (pAdd .i64 y141.2.2.1 1)) fun y149 =>
 bindO (idx (pSet y141.2.1 (pSub .i64 (pLen y141.2.1) 1) (pSet y146 y141.2.2.1 ([a1], (a2, ())))) (pSub .i64 (pLen y141.2.1) 1)) fun y150 =>
 bindO (idx y150 (pAdd .i64 y141.2.2.1 1)) fun y151 =>
 some (y141.1, ((pSet (pSet y141.2.1 (pSub .i64 (pLen y141.2.1) 1) (pSet y146 y141.2.2.1 ([a1], (a2, ())))) (pSub .i64 (pLen y141.2.1) 1) (pSet y150 (pAdd .i64 y141.2.2.1 1) ([], (a2, ())))), ((pAdd .i64 y141.2.2.1 y80), y141.2.2.2)))) (
 some (y141.1, ((pSet y141.2.1 (pSub .i64 (pLen y141.2.1) 1) (pSet y146 y141.2.2.1 ([a1], (a2, ())))), ((pAdd .i64 y141.2.2.1 y80), y141.2.2.2))))) (
 bindO (idx a0.2.1 (pSub .i64 (pLen a0.2.1) 1)) fun y152 =>
 bindO (idx y152 a0.2.2.1) fun y153 =>
 bindO (idx a0.2.1 (pSub .i64 (pLen a0.2.1) 1)) fun y154 =>
 bindO (idx y154 a0.2.2.1) fun y155 =>
 ifB (pEq y80 2) (
 bindO (idx (pSet a0.2.1 (pSub .i64 (pLen a0.2.1) 1) (pSet y154 a0.2.2.1 ([a1], (a2, ())))) (pSub .i64 (pLen a0.2.1) 1)) fun y156 =>
 bindO (idx y156 (pAdd .i64 a0.2.2.1 1)) fun y157 =>
 bindO (idx (pSet a0.2.1 (pSub .i64 (pLen a0.2.1) 1) (pSet y154 a0.2.2.1 ([a1], (a2, ())))) (pSub .i64 (pLen a0.2.1) 1)) fun y158 =>
 bindO (idx y158 (pAdd .i64 a0.2.2.1 1)) fun y159 =>
 some (a0.1, ((pSet (pSet a0.2.1 (pSub .i64 (pLen a0.2.1) 1) (pSet y154 a0.2.2.1 ([a1], (a2, ())))) (pSub .i64 (pLen a0.2.1) 1) (pSet y158 (pAdd .i64 a0.2.2.1 1) ([], (a2, ())))), ((pAdd .i64 a0.2.2.1 y80), a0.2.2.2)))) (
 some (a0.1, ((pSet a0.2.1 (pSub .i64 (pLen a0.2.1) 1) (pSet y154 a0.2.2.1 ([a1], (a2, ())))), ((pAdd .i64 a0.2.2.1 y80), a0.2.2.2))))))
def spec_l09Pen_point.l4 {R : Type} (N : Nat) (d : Int × Int × (Int × (List (List (List Int × Int × Unit))) × Int × Unit) × List Int × Unit) (kn : Int × Int × (Int × (List (List (List Int × Int × Unit))) × Int × Unit) × List Int × Unit → Option R) (kx : (Int × (List (List (List Int × Int × Unit))) × Int × Unit) × Unit → Option R) : Option R :=
 let x22 := d.1;
 let x23 := d.2.1;
 let x24 := d.2.2.1;
 let x25 := d.2.2.2.1;
 ifB (pLt x23 (pLen x25)) (
 bindO (idx x25 x23) fun y26 =>
 bindO (idx x25 x23) fun y27 =>
 bindO (spec_l09Pen_shown N x24 y27 x22) fun y28 =>
 kn (x22, (pAdd .i64 x23 1), y28, x25, ())) (
 kx (x24, ()))
def spec_l09Pen_point (N : Nat) (a0 : Int × (List (List (List (Int) × Int × Unit))) × Int × Unit) (a1 : Int) (a2 : Int) : Option (Int × (List (List (List Int × Int × Unit))) × Int × Unit) :=
 ifB (pEq a1 10) (
 bindO (spec_l09Pen_next N a0) fun y20 =>
 some y20) (
 bindO (spec_l01Shown N a1) fun y21 =>
 loopP (spec_l09Pen_point.l4 N) N (a2, 0, a0, y21, ()) (
 fun d =>
 let x29 := d.1;
 some x29))
def spec_l09Pen_spot (N : Nat) (a0 : Int × (List (List (List (Int) × Int × Unit))) × Int × Unit) : Option (Int × Int × Unit) :=
 ifB (pGe a0.2.2.1 a0.1) (
 some ((pAdd .i64 (pSub .i64 (pLen a0.2.1) 1) 1), (0, ()))) (
 some ((pSub .i64 (pLen a0.2.1) 1), (a0.2.2.1, ())))
def spec_l09Lay.l4 {R : Type} (N : Nat) (d : List Int × Bool × Int × (List Int × Int × Int × Unit) × (Int × (List (List (List Int × Int × Unit))) × Int × Unit) × Unit) (kn : List Int × Bool × Int × (List Int × Int × Int × Unit) × (Int × (List (List (List Int × Int × Unit))) × Int × Unit) × Unit → Option R) (kx : Bool × (List Int × Int × Int × Unit) × (Int × (List (List (List Int × Int × Unit))) × Int × Unit) × Unit → Option R) : Option R :=
 let x70 := d.1;
 let x71 := d.2.1;
 let x72 := d.2.2.1;
 let x73 := d.2.2.2.1;
 let x74 := d.2.2.2.2.1;
 ifB (pLt x72 (pLen x70)) (
 bindO (idx x70 x72) fun y75 =>
 bindO (spec_l09Pen_point N x74 y75 0) fun y76 =>
 kn (x70, x71, (pAdd .i64 x72 1), x73, y76, ())) (
 kx (x71, x73, x74, ()))
def spec_l09Lay.l11 {R : Type} (N : Nat) (d : Bool × Int × Int × Int × (List Int × Int × Int × Unit) × (Int × (List (List (List Int × Int × Unit))) × Int × Unit) × (List (Int × Int × Unit)) × Unit) (kn : Bool × Int × Int × Int × (List Int × Int × Int × Unit) × (Int × (List (List (List Int × Int × Unit))) × Int × Unit) × (List (Int × Int × Unit)) × Unit → Option R) (kx : (Int × (List (List (List Int × Int × Unit))) × Int × Unit) × (List (Int × Int × Unit)) × Unit → Option R) : Option R :=
 let x83 := d.1;
 let x84 := d.2.1;
 let x85 := d.2.2.1;
 let x86 := d.2.2.2.1;
 let x87 := d.2.2.2.2.1;
 let x88 := d.2.2.2.2.2.1;
 let x89 := d.2.2.2.2.2.2.1;
 ifB (pLt x86 (pLen x87.1)) (
 bindO (A := Bool × Int × Int × Int × (List Int × Int × Int × Unit) × (Int × (List (List (List Int × Int × Unit))) × Int × Unit) × (List (Int × Int × Unit)) × Unit) (
 bindO (
 ifB x83 (
 some (pGe x86 x84)) (
 some false)) fun y90 =>
 bindO (
 ifB y90 (
 some (pLt x86 x85)) (
 some false)) fun y91 =>
 ifB y91 (
 bindO (idx x87.1 x86) fun y92 =>
 bindO (spec_l09Pen_point N x88 y92 1) fun y93 =>
 bindO (spec_l09Pen_spot N y93) fun y94 =>
 ifB (pFit x89 [y94]) (
 some (x83, x84, x85, x86, x87, y93, (pApp x89 [y94]), ())) (
 none)) (
 bindO (idx x87.1 x86) fun y95 =>
 bindO (spec_l09Pen_point N x88 y95 0) fun y96 =>
 bindO (spec_l09Pen_spot N y96) fun y97 =>
 ifB (pFit x89 [y97]) (
 some (x83, x84, x85, x86, x87, y96, (pApp x89 [y97]), ())) (
 none))) (
 fun d =>
 let x98 := d.1;
 let x99 := d.2.1;
 let x100 := d.2.2.1;
 let x101 := d.2.2.2.1;
 let x102 := d.2.2.2.2.1;
 let x103 := d.2.2.2.2.2.1;
 let x104 := d.2.2.2.2.2.2.1;
 kn (x98, x99, x100, (pAdd .i64 x101 1), x102, x103, x104, ()))) (
 kx (x88, x89, ()))
def spec_l09Lay (N : Nat) (a0 : List (Int)) (a1 : List (Int) × Int × Int × Unit) (a2 : Bool) (a3 : Int) : Option ((Int × (List (List (List Int × Int × Unit))) × Int × Unit) × List (Int × Int × Unit)) :=
 bindO (spec_l09Pen_next N (a3, ([], (0, ())))) fun y69 =>
 loopP (spec_l09Lay.l4 N) N (a0, a2, 0, a1, y69, ()) (
 fun d =>
 let x77 := d.1;
 let x78 := d.2.1;
 let x79 := d.2.2.1;
 bindO (spec_l09Pen_spot N x79) fun y80 =>
 bindO (spec_l01Min N x78.2.1 x78.2.2.1) fun y81 =>
 bindO (spec_l01Max N x78.2.1 x78.2.2.1) fun y82 =>
 loopP (spec_l09Lay.l11 N) N (x77, y81, y82, 0, x78, x79, [y80], ()) (
 fun d =>
 let x105 := d.1;
 let x106 := d.2.1;
 some (x105, x106)))
def spec_ViewRows (N : Nat) (a0 : List (Int)) (a1 : List (Int) × Int × Int × Unit) (a2 : Int) : Option (Int) :=
 bindO (
 ifB (pGt (pLen a0) 400) (
 some true) (
 bindO (spec_PointsRight N a0) fun y9 =>
 some (pNot y9))) fun y8 =>
 bindO (
 ifB y8 (
 some true) (
 bindO (spec_BufRight N a1) fun y11 =>
 some (pNot y11))) fun y10 =>
 bindO (
 ifB y10 (
 some true) (
 bindO (spec_l08Size N 1 a2) fun y13 =>
 some (pNot y13))) fun y12 =>
 ifB y12 (
 some 0) (
 bindO (spec_l09Lay N a0 a1 false a2) fun y14 =>
 bindO (idx y14.2 (pSub .i64 (pLen y14.2) 1)) fun y15 =>
 some (pAdd .i64 y15.1 1))
def impl_ViewSpot (N : Nat) (a0 : List (Int)) (a1 : List (Int) × Int × Int × Unit) (a2 : Int) (a3 : Int) : Option (Int × Int × Unit) :=
 bindO (impl_isViewed N a0 a1 a3) fun y5 =>
 bindO (
 ifB (pNot y5) (
 some true) (
 bindO (impl_Buf_isPlace N a1 a2) fun y7 =>
 some (pNot y7))) fun y6 =>
 ifB y6 (
 some (0, (0, ()))) (
 bindO (impl_lay N a0 a1 false a3) fun y8 =>
 bindO (idx y8.2.2.2.2.2.1 a2) fun y9 =>
 some y9)
def spec_ViewSpot (N : Nat) (a0 : List (Int)) (a1 : List (Int) × Int × Int × Unit) (a2 : Int) (a3 : Int) : Option (Int × Int × Unit) :=
 bindO (
 ifB (pGt (pLen a0) 400) (
 some true) (
 bindO (spec_PointsRight N a0) fun y11 =>
 some (pNot y11))) fun y10 =>
 bindO (
 ifB y10 (
 some true) (
 bindO (spec_BufRight N a1) fun y13 =>
 some (pNot y13))) fun y12 =>
 bindO (
 ifB y12 (
 some true) (
 bindO (spec_l08Size N 1 a3) fun y15 =>
 some (pNot y15))) fun y14 =>
 bindO (
 ifB y14 (
 some true) (
 some (pLt a2 0))) fun y16 =>
 bindO (
 ifB y16 (
 some true) (
 some (pGt a2 (pLen a1.1)))) fun y17 =>
 ifB y17 (
 some (0, (0, ()))) (
 bindO (spec_l09Lay N a0 a1 false a3) fun y18 =>
 bindO (idx y18.2 a2) fun y19 =>
 some y19)
def laws_FnSpots.l11 {R : Type} (N : Nat) (d : Int × Int × Int × List Int × (List Int × Int × Int × Unit) × (Int × Int × Unit) × Unit) (kn : Int × Int × Int × List Int × (List Int × Int × Int × Unit) × (Int × Int × Unit) × Unit → Option R) (kx : (Int × (Int × Int × Unit) × Unit) ⊕ (Bool × Unit) → Option R) : Option R :=
 let x43 := d.1;
 let x44 := d.2.1;
 let x45 := d.2.2.1;
 let x46 := d.2.2.2.1;
 let x47 := d.2.2.2.2.1;
 let x48 := d.2.2.2.2.2.1;
 ifB (pLe x45 (pLen x47.1)) (
 bindO (A := (Int × Int × Int × List Int × (List Int × Int × Int × Unit) × (Int × Int × Unit) × Unit) ⊕ (Bool × Unit)) (
 bindO (laws_lwCopy N x46) fun y49 =>
 bindO (impl_ViewSpot N y49 x47 x45 x43) fun y50 =>
 bindO (spec_ViewSpot N x46 x47 x45 x43) fun y51 =>
 ifB (pNot (pAnd2 (pEq y50.1 y51.1) (pAnd2 (pEq y50.2.1 y51.2.1) true))) (
 some (.inr (false, ()))) (
 ifB (pLt y50.1 x48.1) (
 some (.inr (false, ()))) (
 ifB (pEq y50.1 x48.1) (
 ifB (pLt y50.2.1 x48.2.1) (
 some (.inr (false, ()))) (
 ifB (pGe y50.2.1 x43) (
 some (.inr (false, ()))) (
 some (.inl (x43, x44, x45, x46, x47, y50, ()))))) (
 ifB (pGe y50.2.1 x43) (
 some (.inr (false, ()))) (
 some (.inl (x43, x44, x45, x46, x47, y50, ()))))))) (
 onSum (fun d =>
 let x52 := d.1;
 let x53 := d.2.1;
 let x54 := d.2.2.1;
 let x55 := d.2.2.2.1;
 let x56 := d.2.2.2.2.1;
 let x57 := d.2.2.2.2.2.1;
 kn (x52, x53, (pAdd .i64 x54 1), x55, x56, x57, ())) (
 fun d =>
 let x58 := d.1;
 kx (.inr (x58, ()))))) (
 kx (.inl (x44, x48, ())))
def laws_FnSpots (N : Nat) (a0 : List (Int)) : Option (Bool) :=
 ifB (pGt (pLen a0) 1048576) (
 some true) (
 bindO (spec_DrawViewRows N a0) fun y39 =>
 bindO (laws_lwCopy N y39.1) fun y40 =>
 bindO (impl_ViewRows N y40 y39.2.1 y39.2.2) fun y41 =>
 bindO (spec_ViewRows N y39.1 y39.2.1 y39.2.2) fun y42 =>
 ifB (pNe y41 y42) (
 some false) (
 ifB (pEq y41 0) (
 some true) (
 loopP (laws_FnSpots.l11 N) N (y39.2.2, y41, 0, y39.1, y39.2.1, (0, (0, ())), ()) (
 onSum (fun d =>
 let x59 := d.1;
 let x60 := d.2.1;
 some (pEq x60.1 (pSub .i64 x59 1))) (
 fun d =>
 let x61 := d.1;
 some x61)))))
end Go.AE.F
end
