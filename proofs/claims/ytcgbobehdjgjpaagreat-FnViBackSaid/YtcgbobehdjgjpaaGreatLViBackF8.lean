/- Functions as they are printed out of the program: plain Lean, nothing is claimed here. -/
import Derived.Test.YtcgbobehdjgjpaaGreatLViBackF7
noncomputable section
namespace Go.AE.F
open Go.AE
def zAB (N : Nat) (a0 : (List (Int) × Int × Int × Unit) × (List (List (Int)) × Int × Unit) × Bool × Int × Int × Unit) (a1 : Int × Int × Int × Int × Unit) : Option (Int × (List Int × Int × Int × Unit) × (List (List Int) × Int × Unit) × Bool × Int × Int × Unit) :=
 bindO (zCF N (pConv .i64 a1.2.1)) fun y88 =>
 bindO (A := (((List Int × Int × Int × Unit) × (List (List Int) × Int × Unit) × Bool × Int × Int × Unit) × Unit) ⊕ (Int × ((List Int × Int × Int × Unit) × (List (List Int) × Int × Unit) × Bool × Int × Int × Unit) × Unit)) (
 ifB (pGt y88 0) (
 bindO (zAM N a0.1 y88 a1.1 0) fun y89 =>
 some (.inl (((a0.1.1, (y89, a0.1.2.2)), a0.2), ()))) (
 bindO (
 ifB (pEq a1.2.1 120) (
 some true) (
 some (pNe a1.2.2.1 0))) fun y90 =>
 ifB y90 (
 bindO (A := Int × Int × ((List Int × Int × Int × Unit) × (List (List Int) × Int × Unit) × Bool × Int × Int × Unit) × (Int × Int × Int × Int × Unit) × Unit) (
 ifB (pEq a1.2.1 120) (
 bindO (zAM N a0.1 2 a1.1 0) fun y91 =>
 some (a0.1.2.1, y91, a0, a1, ())) (
 ifB (pEq a1.2.2.1 a1.2.1) (
 bindO (zAJ N a0.1 a0.1.2.1) fun y92 =>
 bindO (zAU N a0.1 a0.1.2.1) fun y93 =>
 some (y92, y93, a0, a1, ())) (
 bindO (zCF N (pConv .i64 a1.2.2.1)) fun y94 =>
 bindO (zAM N a0.1 y94 a1.1 0) fun y95 =>
 some (a0.1.2.1, y95, a0, a1, ())))) (
 fun d =>
 let x96 := d.1;
 let x97 := d.2.1;
 let x98 := d.2.2.1;
 let x99 := d.2.2.2.1;
 bindO (zBY N x98 (pMin x96 x97) (pMax x96 x97) (pEq x99.2.1 121)) fun y100 =>
 some (.inl ((y100.1, (y100.2.1, ((pEq x99.2.1 99), y100.2.2.2))), ())))) (
 bindO (
 ifB (pEq a1.2.1 112) (
 some true) (
 some (pEq a1.2.1 80))) fun y101 =>
 ifB y101 (
 ifB (pEq a1.2.1 112) (
 bindO (zAN N a0.1.1) fun y102 =>
 loopP (zAB.l26 N) N (a1.1, 0, ((a0.1.1, ((pMin (pAdd .i64 a0.1.2.1 1) y102), a0.1.2.2)), a0.2), ()) (
 onSum (fun d =>
 let x107 := d.1;
 some (.inl (x107, ()))) (
 fun d =>
 let x108 := d.1;
 let x109 := d.2.1;
 some (.inr (x108, x109, ()))))) (
 loopP (zAB.l26 N) N (a1.1, 0, a0, ()) (
 onSum (fun d =>
 let x114 := d.1;
 some (.inl (x114, ()))) (
 fun d =>
 let x115 := d.1;
 let x116 := d.2.1;
 some (.inr (x115, x116, ())))))) (
 ifB (pEq a1.2.1 126) (
 bindO (zAN N a0.1.1) fun y117 =>
 bindO (zA8 N a0.1.1) fun y118 =>
 loopP (zAB.l36 N) N ((pMin (pAdd .i64 a0.1.2.1 a1.1) y117), a0.1.2.1, ((y118, a0.1.2), a0.2), ()) (
 fun d =>
 let x127 := d.1;
 let x128 := d.2.1;
 some (.inl (((x128.1.1, (x127, x128.1.2.2)), x128.2), ())))) (
 ifB (pEq a1.2.1 97) (
 bindO (zAN N a0.1.1) fun y129 =>
 some (.inl (((a0.1.1, ((pMin (pAdd .i64 a0.1.2.1 1) y129), a0.1.2.2)), (a0.2.1, (true, a0.2.2.2))), ()))) (
 ifB (pEq a1.2.1 65) (
 bindO (zAU N a0.1 a0.1.2.1) fun y130 =>
 some (.inl (((a0.1.1, (y130, a0.1.2.2)), (a0.2.1, (true, a0.2.2.2))), ()))) (
 ifB (pEq a1.2.1 73) (
 bindO (zAJ N a0.1 a0.1.2.1) fun y131 =>
 some (.inl (((a0.1.1, (y131, a0.1.2.2)), (a0.2.1, (true, a0.2.2.2))), ()))) (
 some (.inl ((a0.1, (a0.2.1, (true, a0.2.2.2))), ())))))))))) (
 onSum (fun d =>
 let x132 := d.1;
 some (0, x132)) (
 fun d =>
 let x133 := d.1;
 let x134 := d.2.1;
 some (x133, x134)))
def zCQ (N : Nat) (a0 : List (Int) × Int × Int × Unit) (a1 : List (List (Int)) × Int × Unit) (a2 : ByteArray) : Option ((List Int × Int × Int × Unit) × (List (List Int) × Int × Unit) × Bool × Int × Int × Unit) :=
 bindO (zCO N [a2]) fun y16 =>
 ifB y16 (
 some (([], (0, (0, ()))), (([], (0, ())), (false, (0, (2, ())))))) (
 bindO (zBU N a0) fun y17 =>
 bindO (
 ifB (pNot y17) (
 some true) (
 bindO (zBG N a1) fun y19 =>
 some (pNot y19))) fun y18 =>
 ifB y18 (
 some (([], (0, (0, ()))), (([], (0, ())), (false, (0, (1, ())))))) (
 bindO (zAI N a2) fun y20 =>
 bindO (zCN N a0) fun y21 =>
 bindO (zCG N a1) fun y22 =>
 ifB (pEq y20.2 0) (
 bindO (zAB N (y21, (y22, (false, (y20.1.2.2.2.1, (0, ()))))) y20.1) fun y23 =>
 ifB (pNe y23.1 0) (
 some (([], (0, (0, ()))), (([], (0, ())), (false, (0, (y23.1, ())))))) (
 bindO (zCN N y23.2.1) fun y24 =>
 bindO (zCG N y23.2.2.1) fun y25 =>
 some (y24, (y25, (y23.2.2.2.1, (y23.2.2.2.2.1, (0, ()))))))) (
 ifB (pNe y20.2 0) (
 some (([], (0, (0, ()))), (([], (0, ())), (false, (0, (y20.2, ())))))) (
 bindO (zCN N y21) fun y26 =>
 bindO (zCG N y22) fun y27 =>
 some (y26, (y27, (false, (y20.1.2.2.2.1, (0, ())))))))))
def zCC (N : Nat) (a0 : List (Int)) : Option ((List Int × Int × Int × Unit) × (List (List Int) × Int × Unit) × ByteArray) :=
 bindO (zAR N a0) fun y7 =>
 bindO (zBF N y7) fun y8 =>
 bindO (zAE N y8.2) fun y9 =>
 bindO (zAF N y9.2 2) fun y10 =>
 bindO (zAG N y10.2 (pAdd .i64 1 y10.1)) fun y11 =>
 bindO (zAQ N y11.2 8) fun y12 =>
 ifB y12.1 (
 bindO (zB1 N y12.2 [(ByteArray.mk #[]), (ByteArray.mk #[100]), (ByteArray.mk #[51]), (ByteArray.mk #[49, 50]), (ByteArray.mk #[51, 100]), (ByteArray.mk #[57, 57, 57, 120]), (ByteArray.mk #[57, 57, 57, 57, 120]), (ByteArray.mk #[99, 36]), (ByteArray.mk #[121, 100]), (ByteArray.mk #[73]), (ByteArray.mk #[97])]) fun y13 =>
 some (y8.1, y9.1, y13.1)) (
 some (y8.1, y9.1, y11.1))
def zCT (N : Nat) (a0 : List (Int) × Int × Int × Unit) (a1 : List (List (Int)) × Int × Unit) (a2 : ByteArray) : Option ((List Int × Int × Int × Unit) × (List (List Int) × Int × Unit) × Bool × Int × Int × Unit) :=
 ifB (pGt (pSize a2) 20000) (
 some (([], (0, (0, ()))), (([], (0, ())), (false, (0, (2, ())))))) (
 bindO (zB6 N a0) fun y4 =>
 bindO (
 ifB (pNot y4) (
 some true) (
 bindO (zB7 N a1) fun y6 =>
 some (pNot y6))) fun y5 =>
 ifB y5 (
 some (([], (0, (0, ()))), (([], (0, ())), (false, (0, (1, ())))))) (
 bindO (zB8 N a0 a1 a2) fun y7 =>
 some y7))
def zCI (N : Nat) (a0 : List (Int)) (a1 : List (Int)) : Option (Bool) :=
 bindO (
 ifB (pGt (pLen a0) 1048576) (
 some true) (
 some (pGt (pLen a1) 1048576))) fun y16 =>
 ifB y16 (
 some true) (
 bindO (zCC N a0) fun y17 =>
 bindO (zB6 N y17.1) fun y18 =>
 bindO (
 ifB (pNot y18) (
 some true) (
 bindO (zB7 N y17.2.1) fun y20 =>
 some (pNot y20))) fun y19 =>
 ifB y19 (
 some true) (
 bindO (zCS N a1 0 10) fun y21 =>
 bindO (idx [(ByteArray.mk #[100, 104]), (ByteArray.mk #[100, 108]), (ByteArray.mk #[100, 98]), (ByteArray.mk #[100, 119]), (ByteArray.mk #[100, 48]), (ByteArray.mk #[100, 36]), (ByteArray.mk #[100, 100]), (ByteArray.mk #[120]), (ByteArray.mk #[50, 100, 119]), (ByteArray.mk #[51, 120])] y21) fun y22 =>
 bindO (idx [(ByteArray.mk #[100, 104]), (ByteArray.mk #[100, 108]), (ByteArray.mk #[100, 98]), (ByteArray.mk #[100, 119]), (ByteArray.mk #[100, 48]), (ByteArray.mk #[100, 36]), (ByteArray.mk #[100, 100]), (ByteArray.mk #[120]), (ByteArray.mk #[50, 100, 119]), (ByteArray.mk #[51, 120])] y21) fun y23 =>
 bindO (zCQ N y17.1 y17.2.1 y23) fun y24 =>
 bindO (
 ifB (pNe y24.2.2.2.2.1 0) (
 some true) (
 some (pNe y24.2.2.2.1 (pSize y23)))) fun y25 =>
 bindO (
 ifB y25 (
 some true) (
 some y24.2.2.1)) fun y26 =>
 ifB y26 (
 some false) (
 ifB (pEq (pLen y24.1.1) (pLen y17.1.1)) (
 bindO (zB5 N y24.1.1 y17.1.1) fun y27 =>
 ifB y27 (
 bindO (zCT N y17.1 y17.2.1 y23) fun y28 =>
 some (pEq (pLen y28.1.1) (pLen y17.1.1))) (
 some false)) (
 bindO (zCQ N y24.1 y24.2.1 (ByteArray.mk #[80])) fun y29 =>
 ifB (pEq y29.2.2.2.2.1 0) (
 bindO (zB5 N y29.1.1 y17.1.1) fun y30 =>
 ifB y30 (
 bindO (zCL N y24.2.1) fun y31 =>
 some (pEq (pLen y31) (pSub .i64 (pLen y17.1.1) (pLen y24.1.1)))) (
 some false)) (
 some false)))))
end Go.AE.F
end
