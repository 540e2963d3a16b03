/- Functions as they are printed out of the program: plain Lean, nothing is claimed here. -/
import Derived.Test.YtcgbobehdjgjpaaGreatLViBackF6
noncomputable section
namespace Go.AE.F
open Go.AE
def zB8 (N : Nat) (a0 : List (Int) × Int × Int × Unit) (a1 : List (List (Int)) × Int × Unit) (a2 : ByteArray) : Option ((List Int × Int × Int × Unit) × (List (List Int) × Int × Unit) × Bool × Int × Int × Unit) :=
 loopP (zB8.l3 N) N (a2, 0, 0, a0, a1, (([], (0, (0, ()))), (([], (0, ())), (false, (0, (0, ()))))), ()) (
 fun d =>
 let x86 := d.1;
 let x87 := d.2.1;
 let x88 := d.2.2.1;
 let x89 := d.2.2.2.1;
 let x90 := d.2.2.2.2.1;
 let x91 := d.2.2.2.2.2.1;
 ifB (pEq x87 (pSize x86)) (
 some (([], (0, (0, ()))), (([], (0, ())), (false, (0, (9, ())))))) (
 bindO (zBR N 1 x88) fun y92 =>
 bindO (bidx x86 x87) fun y93 =>
 bindO (zBW N x89) fun y94 =>
 bindO (zBN N x90) fun y95 =>
 ifB (pEq y93 100) (
 ifB (pEq (pAdd .i64 x87 1) (pSize x86)) (
 some (([], (0, (0, ()))), (([], (0, ())), (false, (0, (9, ())))))) (
 bindO (bidx x86 (pAdd .i64 x87 1)) fun y96 =>
 bindO (zBC N y94 y95 y93 y96 y92) fun y97 =>
 ifB (pEq y97.2.2.2.2.1 0) (
 some (y97.1, (y97.2.1, (y97.2.2.1, ((pAdd .i64 (pAdd .i64 x87 1) 1), y97.2.2.2.2))))) (
 some y97))) (
 ifB (pEq y93 121) (
 ifB (pEq (pAdd .i64 x87 1) (pSize x86)) (
 some (([], (0, (0, ()))), (([], (0, ())), (false, (0, (9, ())))))) (
 bindO (bidx x86 (pAdd .i64 x87 1)) fun y98 =>
 bindO (zBC N y94 y95 y93 y98 y92) fun y99 =>
 ifB (pEq y99.2.2.2.2.1 0) (
 some (y99.1, (y99.2.1, (y99.2.2.1, ((pAdd .i64 (pAdd .i64 x87 1) 1), y99.2.2.2.2))))) (
 some y99))) (
 ifB (pEq y93 99) (
 ifB (pEq (pAdd .i64 x87 1) (pSize x86)) (
 some (([], (0, (0, ()))), (([], (0, ())), (false, (0, (9, ())))))) (
 bindO (bidx x86 (pAdd .i64 x87 1)) fun y100 =>
 bindO (zBC N y94 y95 y93 y100 y92) fun y101 =>
 ifB (pEq y101.2.2.2.2.1 0) (
 some (y101.1, (y101.2.1, (y101.2.2.1, ((pAdd .i64 (pAdd .i64 x87 1) 1), y101.2.2.2.2))))) (
 some y101))) (
 ifB (pEq y93 120) (
 bindO (zBC N y94 y95 100 108 y92) fun y102 =>
 ifB (pEq y102.2.2.2.2.1 0) (
 some (y102.1, (y102.2.1, (y102.2.2.1, ((pAdd .i64 x87 1), y102.2.2.2.2))))) (
 some y102)) (
 ifB (pEq y93 112) (
 bindO (zB3 N y94 y95 (pEq y93 112) y92) fun y103 =>
 ifB (pEq y103.2.2.2.2.1 0) (
 some (y103.1, (y103.2.1, (y103.2.2.1, ((pAdd .i64 x87 1), y103.2.2.2.2))))) (
 some y103)) (
 ifB (pEq y93 80) (
 bindO (zB3 N y94 y95 (pEq y93 112) y92) fun y104 =>
 ifB (pEq y104.2.2.2.2.1 0) (
 some (y104.1, (y104.2.1, (y104.2.2.1, ((pAdd .i64 x87 1), y104.2.2.2.2))))) (
 some y104)) (
 ifB (pEq y93 126) (
 bindO (zBL N (pLen x89.1) (pAdd .i64 x89.2.1 y92)) fun y105 =>
 ifB (pLe 0 x89.2.1) (
 ifB (pLe x89.2.1 y105) (
 ifB (pLe y105 (pLen x89.1)) (
 bindO (zAP N (sub x89.1 x89.2.1 y105)) fun y106 =>
 bindO (zBA N x89 x89.2.1 y105 y106) fun y107 =>
 ifB (pEq 0 0) (
 some ((y107.1.1, (y105, y107.1.2.2)), (y95, (false, ((pAdd .i64 x87 1), (0, ())))))) (
 some ((y107.1.1, (y105, y107.1.2.2)), (y95, (false, (0, (0, ()))))))) (
 none)) (
 none)) (
 none)) (
 ifB (pEq y93 105) (
 ifB (pEq y93 97) (
 bindO (zBL N (pLen x89.1) (pAdd .i64 x89.2.1 1)) fun y108 =>
 ifB (pEq 0 0) (
 some ((y94.1, (y108, y94.2.2)), (y95, (true, ((pAdd .i64 x87 1), (0, ())))))) (
 some ((y94.1, (y108, y94.2.2)), (y95, (true, (0, (0, ()))))))) (
 ifB (pEq y93 65) (
 bindO (zAV N x89 x89.2.1) fun y109 =>
 ifB (pEq 0 0) (
 some ((y94.1, (y109, y94.2.2)), (y95, (true, ((pAdd .i64 x87 1), (0, ())))))) (
 some ((y94.1, (y109, y94.2.2)), (y95, (true, (0, (0, ()))))))) (
 ifB (pEq y93 73) (
 bindO (zAK N x89 x89.2.1) fun y110 =>
 ifB (pEq 0 0) (
 some ((y94.1, (y110, y94.2.2)), (y95, (true, ((pAdd .i64 x87 1), (0, ())))))) (
 some ((y94.1, (y110, y94.2.2)), (y95, (true, (0, (0, ()))))))) (
 ifB (pEq 0 0) (
 some (y94, (y95, (true, ((pAdd .i64 x87 1), (0, ())))))) (
 some (y94, (y95, (true, (0, (0, ())))))))))) (
 ifB (pEq y93 97) (
 ifB (pEq y93 97) (
 bindO (zBL N (pLen x89.1) (pAdd .i64 x89.2.1 1)) fun y111 =>
 ifB (pEq 0 0) (
 some ((y94.1, (y111, y94.2.2)), (y95, (true, ((pAdd .i64 x87 1), (0, ())))))) (
 some ((y94.1, (y111, y94.2.2)), (y95, (true, (0, (0, ()))))))) (
 ifB (pEq y93 65) (
 bindO (zAV N x89 x89.2.1) fun y112 =>
 ifB (pEq 0 0) (
 some ((y94.1, (y112, y94.2.2)), (y95, (true, ((pAdd .i64 x87 1), (0, ())))))) (
 some ((y94.1, (y112, y94.2.2)), (y95, (true, (0, (0, ()))))))) (
 ifB (pEq y93 73) (
 bindO (zAK N x89 x89.2.1) fun y113 =>
 ifB (pEq 0 0) (
 some ((y94.1, (y113, y94.2.2)), (y95, (true, ((pAdd .i64 x87 1), (0, ())))))) (
 some ((y94.1, (y113, y94.2.2)), (y95, (true, (0, (0, ()))))))) (
 ifB (pEq 0 0) (
 some (y94, (y95, (true, ((pAdd .i64 x87 1), (0, ())))))) (
 some (y94, (y95, (true, (0, (0, ())))))))))) (
 ifB (pEq y93 65) (
 ifB (pEq y93 97) (
 bindO (zBL N (pLen x89.1) (pAdd .i64 x89.2.1 1)) fun y114 =>
 ifB (pEq 0 0) (
 some ((y94.1, (y114, y94.2.2)), (y95, (true, ((pAdd .i64 x87 1), (0, ())))))) (
 some ((y94.1, (y114, y94.2.2)), (y95, (true, (0, (0, ()))))))) (
 ifB (pEq y93 65) (
 bindO (zAV N x89 x89.2.1) fun y115 =>
 ifB (pEq 0 0) (
 some ((y94.1, (y115, y94.2.2)), (y95, (true, ((pAdd .i64 x87 1), (0, ())))))) (
 some ((y94.1, (y115, y94.2.2)), (y95, (true, (0, (0, ()))))))) (
 ifB (pEq y93 73) (
 bindO (zAK N x89 x89.2.1) fun y116 =>
 ifB (pEq 0 0) (
 some ((y94.1, (y116, y94.2.2)), (y95, (true, ((pAdd .i64 x87 1), (0, ())))))) (
 some ((y94.1, (y116, y94.2.2)), (y95, (true, (0, (0, ()))))))) (
 ifB (pEq 0 0) (
 some (y94, (y95, (true, ((pAdd .i64 x87 1), (0, ())))))) (
 some (y94, (y95, (true, (0, (0, ())))))))))) (
 ifB (pEq y93 73) (
 ifB (pEq y93 97) (
 bindO (zBL N (pLen x89.1) (pAdd .i64 x89.2.1 1)) fun y117 =>
 ifB (pEq 0 0) (
 some ((y94.1, (y117, y94.2.2)), (y95, (true, ((pAdd .i64 x87 1), (0, ())))))) (
 some ((y94.1, (y117, y94.2.2)), (y95, (true, (0, (0, ()))))))) (
 ifB (pEq y93 65) (
 bindO (zAV N x89 x89.2.1) fun y118 =>
 ifB (pEq 0 0) (
 some ((y94.1, (y118, y94.2.2)), (y95, (true, ((pAdd .i64 x87 1), (0, ())))))) (
 some ((y94.1, (y118, y94.2.2)), (y95, (true, (0, (0, ()))))))) (
 ifB (pEq y93 73) (
 bindO (zAK N x89 x89.2.1) fun y119 =>
 ifB (pEq 0 0) (
 some ((y94.1, (y119, y94.2.2)), (y95, (true, ((pAdd .i64 x87 1), (0, ())))))) (
 some ((y94.1, (y119, y94.2.2)), (y95, (true, (0, (0, ()))))))) (
 ifB (pEq 0 0) (
 some (y94, (y95, (true, ((pAdd .i64 x87 1), (0, ())))))) (
 some (y94, (y95, (true, (0, (0, ())))))))))) (
 bindO (zC7 N x89 (pConv .i64 y93) y92) fun y120 =>
 ifB (pLt y120 0) (
 some (([], (0, (0, ()))), (([], (0, ())), (false, (0, (3, ())))))) (
 ifB (pEq 0 0) (
 some ((y94.1, (y120, y94.2.2)), (y95, (false, ((pAdd .i64 x87 1), (0, ())))))) (
 some ((y94.1, (y120, y94.2.2)), (y95, (false, (0, (0, ()))))))))))))))))))))
def zCK (N : Nat) (a0 : Int) : Option (Bool) :=
 bindO (
 ifB (pGe a0 48) (
 some (pLe a0 57)) (
 some false)) fun y1 =>
 some y1
def zBM (N : Nat) (a0 : ByteArray) (a1 : Int) : Option (Int) :=
 some (match a0.data.toList.findIdx? (fun b => b == a1.toNat.toUInt8) with | some i => (i : Int) | none => -1)
def zB9 (N : Nat) (a0 : ByteArray) (a1 : Int) : Option (Int) :=
 bindO (zBM N a0 a1) fun y1 =>
 some y1
def zAI.l2 {R : Type} (N : Nat) (d : ByteArray × (Int × Int × Int × Int × Unit) × (Int × Int × Int × Int × Unit) × Unit) (kn : ByteArray × (Int × Int × Int × Int × Unit) × (Int × Int × Int × Int × Unit) × Unit → Option R) (kx : ByteArray × (Int × Int × Int × Int × Unit) × (Int × Int × Int × Int × Unit) × Unit → Option R) : Option R :=
 let x38 := d.1;
 let x39 := d.2.1;
 let x40 := d.2.2.1;
 bindO (
 ifB (pLt x40.2.2.2.1 (pSize x38)) (
 some (pLt x40.2.2.2.1 3)) (
 some false)) fun y41 =>
 bindO (
 ifB y41 (
 bindO (bidx x38 x40.2.2.2.1) fun y43 =>
 bindO (zCK N y43) fun y44 =>
 some y44) (
 some false)) fun y42 =>
 bindO (
 ifB y42 (
 bindO (
 ifB (pEq x40.2.2.2.1 0) (
 bindO (bidx x38 0) fun y47 =>
 some (pEq y47 48)) (
 some false)) fun y46 =>
 some (pNot y46)) (
 some false)) fun y45 =>
 ifB y45 (
 ifB (pEq x40.2.2.2.1 0) (
 bindO (bidx x38 x40.2.2.2.1) fun y48 =>
 kn (x38, x39, ((pAdd .i64 (pMul .i64 10 0) (pConv .i64 (pSub .u8 y48 48))), (x40.2.1, (x40.2.2.1, ((pAdd .i64 x40.2.2.2.1 1), x40.2.2.2.2)))), ())) (
 bindO (bidx x38 x40.2.2.2.1) fun y49 =>
 kn (x38, x39, ((pAdd .i64 (pMul .i64 10 x40.1) (pConv .i64 (pSub .u8 y49 48))), (x40.2.1, (x40.2.2.1, ((pAdd .i64 x40.2.2.2.1 1), x40.2.2.2.2)))), ()))) (
 kx (x38, x39, x40, ()))
def zAI (N : Nat) (a0 : ByteArray) : Option ((Int × Int × Int × Int × Unit) × Int) :=
 loopP (zAI.l2 N) N (a0, (0, (0, (0, (0, ())))), (1, (0, (0, (0, ())))), ()) (
 fun d =>
 let x50 := d.1;
 let x51 := d.2.1;
 let x52 := d.2.2.1;
 ifB (pEq x52.2.2.2.1 (pSize x50)) (
 some (x52, 9)) (
 bindO (bidx x50 x52.2.2.2.1) fun y53 =>
 bindO (zB9 N (ByteArray.mk #[100, 121, 99]) y53) fun y54 =>
 ifB (pLt y54 0) (
 bindO (zCF N (pConv .i64 y53)) fun y55 =>
 bindO (
 ifB (pEq y55 0) (
 bindO (zB9 N (ByteArray.mk #[120, 112, 80, 105, 97, 65, 73, 126]) y53) fun y57 =>
 some (pLt y57 0)) (
 some false)) fun y56 =>
 ifB y56 (
 some ((x52.1, (y53, (x52.2.2.1, ((pAdd .i64 x52.2.2.2.1 1), x52.2.2.2.2)))), 3)) (
 some ((x52.1, (y53, (x52.2.2.1, ((pAdd .i64 x52.2.2.2.1 1), x52.2.2.2.2)))), 0))) (
 ifB (pEq (pAdd .i64 x52.2.2.2.1 1) (pSize x50)) (
 some ((x52.1, (y53, (x52.2.2.1, ((pAdd .i64 x52.2.2.2.1 1), x52.2.2.2.2)))), 9)) (
 bindO (bidx x50 (pAdd .i64 x52.2.2.2.1 1)) fun y58 =>
 bindO (
 ifB (pNe y58 y53) (
 bindO (zB9 N (ByteArray.mk #[104, 108, 98, 119, 48, 36]) y58) fun y60 =>
 some (pLt y60 0)) (
 some false)) fun y59 =>
 ifB y59 (
 some ((x52.1, (y53, (y58, ((pAdd .i64 (pAdd .i64 x52.2.2.2.1 1) 1), x52.2.2.2.2)))), 3)) (
 some ((x52.1, (y53, (y58, ((pAdd .i64 (pAdd .i64 x52.2.2.2.1 1) 1), x52.2.2.2.2)))), 0))))))
def zBY (N : Nat) (a0 : (List (Int) × Int × Int × Unit) × (List (List (Int)) × Int × Unit) × Bool × Int × Int × Unit) (a1 : Int) (a2 : Int) (a3 : Bool) : Option ((List Int × Int × Int × Unit) × (List (List Int) × Int × Unit) × Bool × Int × Int × Unit) :=
 ifB (pLt a1 a2) (
 ifB (pLe 0 a1) (
 ifB (pLe a1 a2) (
 ifB (pLe a2 (pLen a0.1.1)) (
 bindO (zCR N a0.2.1 (sub a0.1.1 a1 a2)) fun y3 =>
 ifB (pNot a3) (
 bindO (zC0 N a0.1 a1 a2 []) fun y4 =>
 some ((y4.1.1, (a1, y4.1.2.2)), (y3, a0.2.2))) (
 some ((a0.1.1, (a1, a0.1.2.2)), (y3, a0.2.2)))) (
 none)) (
 none)) (
 none)) (
 ifB (pNot a3) (
 bindO (zC0 N a0.1 a1 a2 []) fun y5 =>
 some ((y5.1.1, (a1, y5.1.2.2)), a0.2)) (
 some ((a0.1.1, (a1, a0.1.2.2)), a0.2)))
def zCE (N : Nat) (a0 : Int) : Option (Int) :=
 bindO (zBH N a0 97 122) fun y3 =>
 bindO (
 ifB y3 (
 some true) (
 bindO (zBH N a0 65 90) fun y5 =>
 some y5)) fun y4 =>
 ifB y4 (
 some (pXor .i64 a0 32)) (
 some a0)
def zAB.l26 {R : Type} (N : Nat) (d : Int × Int × ((List Int × Int × Int × Unit) × (List (List Int) × Int × Unit) × Bool × Int × Int × Unit) × Unit) (kn : Int × Int × ((List Int × Int × Int × Unit) × (List (List Int) × Int × Unit) × Bool × Int × Int × Unit) × Unit → Option R) (kx : (((List Int × Int × Int × Unit) × (List (List Int) × Int × Unit) × Bool × Int × Int × Unit) × Unit) ⊕ (Int × ((List Int × Int × Int × Unit) × (List (List Int) × Int × Unit) × Bool × Int × Int × Unit) × Unit) → Option R) : Option R :=
 let x103 := d.1;
 let x104 := d.2.1;
 let x105 := d.2.2.1;
 ifB (pLt x104 x103) (
 bindO (zC8 N x105.2.1 x105.1) fun y106 =>
 ifB (pNe y106.2.2.2.1 0) (
 kx (.inr (y106.2.2.2.1, x105, ()))) (
 kn (x103, (pAdd .i64 x104 1), (y106.1, x105.2), ()))) (
 kx (.inl (x105, ())))
def zAB.l36 {R : Type} (N : Nat) (d : Int × Int × ((List Int × Int × Int × Unit) × (List (List Int) × Int × Unit) × Bool × Int × Int × Unit) × Unit) (kn : Int × Int × ((List Int × Int × Int × Unit) × (List (List Int) × Int × Unit) × Bool × Int × Int × Unit) × Unit → Option R) (kx : Int × ((List Int × Int × Int × Unit) × (List (List Int) × Int × Unit) × Bool × Int × Int × Unit) × Unit → Option R) : Option R :=
 let x119 := d.1;
 let x120 := d.2.1;
 let x121 := d.2.2.1;
 ifB (pLt x120 x119) (
 bindO (idx x121.1.1 x120) fun y122 =>
 bindO (idx x121.1.1 x120) fun y123 =>
 bindO (zCE N y123) fun y124 =>
 bindO (idx x121.1.1 x120) fun y125 =>
 bindO (idx x121.1.1 x120) fun y126 =>
 kn (x119, (pAdd .i64 x120 1), (((pSet x121.1.1 x120 y124), x121.1.2), x121.2), ())) (
 kx (x119, x121, ()))
end Go.AE.F
end
