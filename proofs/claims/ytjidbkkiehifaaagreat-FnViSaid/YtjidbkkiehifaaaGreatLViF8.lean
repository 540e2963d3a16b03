/- Functions as they are printed out of the program: plain Lean, nothing is claimed here. -/
import Derived.Test.YtjidbkkiehifaaaGreatLViF7
noncomputable section
namespace Go.AE.F
open Go.AE
def zAA (N : Nat) (a0 : (List (Int) × Int × Int × Unit) × (List (List (Int)) × Int × Unit) × Bool × Int × Int × Unit) (a1 : Int × Int × Int × Int × Unit) : Option (Int × (List Int × Int × Int × Unit) × (List (List Int) × Int × Unit) × Bool × Int × Int × Unit) :=
 bindO (zCM N (pConv .i64 a1.2.1)) fun y88 =>
 bindO (A := (((List Int × Int × Int × Unit) × (List (List Int) × Int × Unit) × Bool × Int × Int × Unit) × Unit) ⊕ (Int × ((List Int × Int × Int × Unit) × (List (List Int) × Int × Unit) × Bool × Int × Int × Unit) × Unit)) (
 ifB (pGt y88 0) (
 bindO (zAM N a0.1 y88 a1.1 0) fun y89 =>
 some (.inl (((a0.1.1, (y89, a0.1.2.2)), a0.2), ()))) (
 bindO (
 ifB (pEq a1.2.1 120) (
 some true) (
 some (pNe a1.2.2.1 0))) fun y90 =>
 ifB y90 (
 bindO (A := Int × Int × ((List Int × Int × Int × Unit) × (List (List Int) × Int × Unit) × Bool × Int × Int × Unit) × (Int × Int × Int × Int × Unit) × Unit) (
 ifB (pEq a1.2.1 120) (
 bindO (zAM N a0.1 2 a1.1 0) fun y91 =>
 some (a0.1.2.1, y91, a0, a1, ())) (
 ifB (pEq a1.2.2.1 a1.2.1) (
 bindO (zAJ N a0.1 a0.1.2.1) fun y92 =>
 bindO (zAT N a0.1 a0.1.2.1) fun y93 =>
 some (y92, y93, a0, a1, ())) (
 bindO (zCM N (pConv .i64 a1.2.2.1)) fun y94 =>
 bindO (zAM N a0.1 y94 a1.1 0) fun y95 =>
 some (a0.1.2.1, y95, a0, a1, ())))) (
 fun d =>
 let x96 := d.1;
 let x97 := d.2.1;
 let x98 := d.2.2.1;
 let x99 := d.2.2.2.1;
 bindO (zC4 N x98 (pMin x96 x97) (pMax x96 x97) (pEq x99.2.1 121)) fun y100 =>
 some (.inl ((y100.1, (y100.2.1, ((pEq x99.2.1 99), y100.2.2.2))), ())))) (
 bindO (
 ifB (pEq a1.2.1 112) (
 some true) (
 some (pEq a1.2.1 80))) fun y101 =>
 ifB y101 (
 ifB (pEq a1.2.1 112) (
 bindO (zAN N a0.1.1) fun y102 =>
 loopP (zAA.l26 N) N (a1.1, 0, ((a0.1.1, ((pMin (pAdd .i64 a0.1.2.1 1) y102), a0.1.2.2)), a0.2), ()) (
 onSum (fun d =>
 let x107 := d.1;
 some (.inl (x107, ()))) (
 fun d =>
 let x108 := d.1;
 let x109 := d.2.1;
 some (.inr (x108, x109, ()))))) (
 loopP (zAA.l26 N) N (a1.1, 0, a0, ()) (
 onSum (fun d =>
 let x114 := d.1;
 some (.inl (x114, ()))) (
 fun d =>
 let x115 := d.1;
 let x116 := d.2.1;
 some (.inr (x115, x116, ())))))) (
 ifB (pEq a1.2.1 126) (
 bindO (zAN N a0.1.1) fun y117 =>
 bindO (zAB N a0.1.1) fun y118 =>
 loopP (zAA.l36 N) N ((pMin (pAdd .i64 a0.1.2.1 a1.1) y117), a0.1.2.1, ((y118, a0.1.2), a0.2), ()) (
 fun d =>
 let x127 := d.1;
 let x128 := d.2.1;
 some (.inl (((x128.1.1, (x127, x128.1.2.2)), x128.2), ())))) (
 ifB (pEq a1.2.1 97) (
 bindO (zAN N a0.1.1) fun y129 =>
 some (.inl (((a0.1.1, ((pMin (pAdd .i64 a0.1.2.1 1) y129), a0.1.2.2)), (a0.2.1, (true, a0.2.2.2))), ()))) (
 ifB (pEq a1.2.1 65) (
 bindO (zAT N a0.1 a0.1.2.1) fun y130 =>
 some (.inl (((a0.1.1, (y130, a0.1.2.2)), (a0.2.1, (true, a0.2.2.2))), ()))) (
 ifB (pEq a1.2.1 73) (
 bindO (zAJ N a0.1 a0.1.2.1) fun y131 =>
 some (.inl (((a0.1.1, (y131, a0.1.2.2)), (a0.2.1, (true, a0.2.2.2))), ()))) (
 some (.inl ((a0.1, (a0.2.1, (true, a0.2.2.2))), ())))))))))) (
 onSum (fun d =>
 let x132 := d.1;
 some (0, x132)) (
 fun d =>
 let x133 := d.1;
 let x134 := d.2.1;
 some (x133, x134)))
def zBB.l2 {R : Type} (N : Nat) (d : ByteArray × ((List Int × Int × Int × Unit) × (List (List Int) × Int × Unit) × Bool × Int × Int × Unit) × ((List Int × Int × Int × Unit) × (List (List Int) × Int × Unit) × Bool × Int × Int × Unit) × Unit) (kn : ByteArray × ((List Int × Int × Int × Unit) × (List (List Int) × Int × Unit) × Bool × Int × Int × Unit) × ((List Int × Int × Int × Unit) × (List (List Int) × Int × Unit) × Bool × Int × Int × Unit) × Unit → Option R) (kx : ((List Int × Int × Int × Unit) × (List (List Int) × Int × Unit) × Bool × Int × Int × Unit) × ((List Int × Int × Int × Unit) × (List (List Int) × Int × Unit) × Bool × Int × Int × Unit) × Unit → Option R) : Option R :=
 let x24 := d.1;
 let x25 := d.2.1;
 let x26 := d.2.2.1;
 bindO (
 ifB (pNot (pSEq x24 (ByteArray.mk #[]))) (
 some (pNot x26.2.2.1)) (
 some false)) fun y27 =>
 ifB y27 (
 bindO (zAI N x24) fun y28 =>
 bindO (zC1 N x26.1) fun y29 =>
 bindO (zBS N x26.2.1) fun y30 =>
 ifB (pEq y28.2 0) (
 bindO (zAA N (y29, (y30, (false, ((pAdd .i64 x26.2.2.2.1 y28.1.2.2.2.1), (0, ()))))) y28.1) fun y31 =>
 ifB (pNe y31.1 0) (
 kx (x25, (x26.1, (x26.2.1, (x26.2.2.1, (x26.2.2.2.1, (y31.1, x26.2.2.2.2.2))))), ())) (
 ifB (pLe 0 y28.1.2.2.2.1) (
 ifB (pLe y28.1.2.2.2.1 (pSize x24)) (
 ifB (pLe (pSize x24) (pSize x24)) (
 kn ((ssub x24 y28.1.2.2.2.1 (pSize x24)), x25, y31.2, ())) (
 none)) (
 none)) (
 none))) (
 ifB (pNe y28.2 0) (
 kx (x25, (x26.1, (x26.2.1, (x26.2.2.1, (x26.2.2.2.1, (y28.2, x26.2.2.2.2.2))))), ())) (
 ifB (pLe 0 y28.1.2.2.2.1) (
 ifB (pLe y28.1.2.2.2.1 (pSize x24)) (
 ifB (pLe (pSize x24) (pSize x24)) (
 kn ((ssub x24 y28.1.2.2.2.1 (pSize x24)), x25, (y29, (y30, (false, ((pAdd .i64 x26.2.2.2.1 y28.1.2.2.2.1), (0, ()))))), ())) (
 none)) (
 none)) (
 none)))) (
 kx (x25, x26, ()))
def zBB (N : Nat) (a0 : List (Int) × Int × Int × Unit) (a1 : List (List (Int)) × Int × Unit) (a2 : ByteArray) : Option ((List Int × Int × Int × Unit) × (List (List Int) × Int × Unit) × Bool × Int × Int × Unit) :=
 bindO (zC1 N a0) fun y22 =>
 bindO (zBS N a1) fun y23 =>
 loopP (zBB.l2 N) N (a2, (([], (0, (0, ()))), (([], (0, ())), (false, (0, (0, ()))))), (y22, (y23, (false, (0, (0, ()))))), ()) (
 fun d =>
 let x32 := d.1;
 let x33 := d.2.1;
 some x33)
def zCU (N : Nat) (a0 : List (Int) × Int × Int × Unit) (a1 : List (List (Int)) × Int × Unit) (a2 : ByteArray) : Option ((List Int × Int × Int × Unit) × (List (List Int) × Int × Unit) × Bool × Int × Int × Unit) :=
 bindO (zCO N [a2]) fun y11 =>
 ifB y11 (
 some (([], (0, (0, ()))), (([], (0, ())), (false, (0, (2, ())))))) (
 bindO (zBD N a0) fun y12 =>
 bindO (
 ifB (pNot y12) (
 some true) (
 bindO (zB8 N a1) fun y14 =>
 some (pNot y14))) fun y13 =>
 ifB y13 (
 some (([], (0, (0, ()))), (([], (0, ())), (false, (0, (1, ())))))) (
 bindO (zBB N a0 a1 a2) fun y15 =>
 bindO (zC1 N y15.1) fun y16 =>
 bindO (zBS N y15.2.1) fun y17 =>
 some (y16, (y17, y15.2.2))))
def zCX (N : Nat) (a0 : List (Int) × Int × Int × Unit) (a1 : List (List (Int)) × Int × Unit) (a2 : ByteArray) : Option ((List Int × Int × Int × Unit) × (List (List Int) × Int × Unit) × Bool × Int × Int × Unit) :=
 bindO (zCO N [a2]) fun y16 =>
 ifB y16 (
 some (([], (0, (0, ()))), (([], (0, ())), (false, (0, (2, ())))))) (
 bindO (zBD N a0) fun y17 =>
 bindO (
 ifB (pNot y17) (
 some true) (
 bindO (zB8 N a1) fun y19 =>
 some (pNot y19))) fun y18 =>
 ifB y18 (
 some (([], (0, (0, ()))), (([], (0, ())), (false, (0, (1, ())))))) (
 bindO (zAI N a2) fun y20 =>
 bindO (zC1 N a0) fun y21 =>
 bindO (zBS N a1) fun y22 =>
 ifB (pEq y20.2 0) (
 bindO (zAA N (y21, (y22, (false, (y20.1.2.2.2.1, (0, ()))))) y20.1) fun y23 =>
 ifB (pNe y23.1 0) (
 some (([], (0, (0, ()))), (([], (0, ())), (false, (0, (y23.1, ())))))) (
 bindO (zC1 N y23.2.1) fun y24 =>
 bindO (zBS N y23.2.2.1) fun y25 =>
 some (y24, (y25, (y23.2.2.2.1, (y23.2.2.2.2.1, (0, ()))))))) (
 ifB (pNe y20.2 0) (
 some (([], (0, (0, ()))), (([], (0, ())), (false, (0, (y20.2, ())))))) (
 bindO (zC1 N y21) fun y26 =>
 bindO (zBS N y22) fun y27 =>
 some (y26, (y27, (false, (y20.1.2.2.2.1, (0, ())))))))))
def zBP.l14 {R : Type} (N : Nat) (d : ByteArray × Int × Bool × ((List Int × Int × Int × Unit) × (List (List Int) × Int × Unit) × Bool × Int × Int × Unit) × ((List Int × Int × Int × Unit) × (List (List Int) × Int × Unit) × Bool × Int × Int × Unit) × (List Int × Int × Int × Unit) × (List (List Int) × Int × Unit) × Unit) (kn : ByteArray × Int × Bool × ((List Int × Int × Int × Unit) × (List (List Int) × Int × Unit) × Bool × Int × Int × Unit) × ((List Int × Int × Int × Unit) × (List (List Int) × Int × Unit) × Bool × Int × Int × Unit) × (List Int × Int × Int × Unit) × (List (List Int) × Int × Unit) × Unit → Option R) (kx : (((List Int × Int × Int × Unit) × (List (List Int) × Int × Unit) × Bool × Int × Int × Unit) × (List Int × Int × Int × Unit) × (List (List Int) × Int × Unit) × Unit) ⊕ (Bool × Unit) → Option R) : Option R :=
 let x56 := d.1;
 let x57 := d.2.1;
 let x58 := d.2.2.1;
 let x59 := d.2.2.2.1;
 let x60 := d.2.2.2.2.1;
 let x61 := d.2.2.2.2.2.1;
 let x62 := d.2.2.2.2.2.2.1;
 bindO (
 ifB (pLt x57 (pSize x56)) (
 some (pNot x58)) (
 some false)) fun y63 =>
 ifB y63 (
 ifB (pLe 0 x57) (
 ifB (pLe x57 (pSize x56)) (
 ifB (pLe (pSize x56) (pSize x56)) (
 bindO (zCX N x61 x62 (ssub x56 x57 (pSize x56))) fun y64 =>
 bindO (
 ifB (pNe y64.2.2.2.2.1 0) (
 some true) (
 some (pLt y64.2.2.2.1 1))) fun y65 =>
 ifB y65 (
 bindO (
 ifB (pEq y64.2.2.2.2.1 x59.2.2.2.2.1) (
 some (pEq x57 x59.2.2.2.1)) (
 some false)) fun y66 =>
 bindO (
 ifB y66 (
 bindO (zCS N x60.1 x61) fun y68 =>
 some y68) (
 some false)) fun y67 =>
 bindO (
 ifB y67 (
 bindO (zCL N x60.2.1 x62) fun y70 =>
 some y70) (
 some false)) fun y69 =>
 kx (.inr (y69, ()))) (
 kn (x56, (pAdd .i64 x57 y64.2.2.2.1), y64.2.2.1, x59, x60, y64.1, y64.2.1, ()))) (
 none)) (
 none)) (
 none)) (
 kx (.inl (x60, x61, x62, ())))
def zBP (N : Nat) (a0 : List (Int)) : Option (Bool) :=
 ifB (pGt (pLen a0) 1048576) (
 some true) (
 bindO (zC5 N a0) fun y51 =>
 bindO (zCV N y51.1 y51.2.1 y51.2.2) fun y52 =>
 bindO (zCU N y51.1 y51.2.1 y51.2.2) fun y53 =>
 bindO (
 ifB (pNe y53.2.2.2.2.1 y52.2.2.2.2.1) (
 some true) (
 some (pNe y53.2.2.2.1 y52.2.2.2.1))) fun y54 =>
 bindO (
 ifB y54 (
 some true) (
 some (pNot (pBeq y53.2.2.1 y52.2.2.1)))) fun y55 =>
 ifB y55 (
 some false) (
 ifB (pEq y52.2.2.2.2.1 1) (
 some true) (
 loopP (zBP.l14 N) N (y51.2.2, 0, false, y52, y53, y51.1, y51.2.1, ()) (
 onSum (fun d =>
 let x71 := d.1;
 let x72 := d.2.1;
 let x73 := d.2.2.1;
 bindO (
 ifB (pEq x71.2.2.2.2.1 0) (
 bindO (zBD N x71.1) fun y75 =>
 some y75) (
 some false)) fun y74 =>
 bindO (
 ifB y74 (
 bindO (zB8 N x71.2.1) fun y77 =>
 some y77) (
 some false)) fun y76 =>
 bindO (
 ifB y76 (
 bindO (zCS N x71.1 x72) fun y79 =>
 some y79) (
 some false)) fun y78 =>
 bindO (
 ifB y78 (
 bindO (zCL N x71.2.1 x73) fun y81 =>
 some y81) (
 some false)) fun y80 =>
 some y80) (
 fun d =>
 let x82 := d.1;
 some x82)))))
end Go.AE.F
end
