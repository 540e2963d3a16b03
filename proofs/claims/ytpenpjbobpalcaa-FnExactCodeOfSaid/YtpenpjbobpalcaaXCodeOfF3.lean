/- Functions as they are printed out of the program: plain Lean, nothing is claimed here. -/
import Derived.Test.YtpenpjbobpalcaaXCodeOfF2
noncomputable section
namespace Go.AE.F
open Go.AE
def zBD (N : Nat) (a0 : Int) : Option (Int × Int) :=
 ifB (pEq a0 1) (
 some (0, 200)) (
 ifB (pEq a0 3) (
 some (2, 3)) (
 ifB (pEq a0 4) (
 some (2, 2)) (
 ifB (pEq a0 6) (
 some (2, 2)) (
 ifB (pEq a0 2) (
 some (1, 1)) (
 ifB (pEq a0 5) (
 some (1, 1)) (
 ifB (pEq a0 7) (
 some (1, 1)) (
 ifB (pEq a0 8) (
 some (1, 1)) (
 ifB (pEq a0 16) (
 some (1, 1)) (
 ifB (pEq a0 17) (
 some (1, 1)) (
 bindO (zAR N a0 18 26) fun y1 =>
 ifB y1 (
 some (2, 2)) (
 some (0, 0))))))))))))
def zAC.l2 {R : Type} (N : Nat) (d : ByteArray × Int × Int × Unit) (kn : ByteArray × Int × Int × Unit → Option R) (kx : (ByteArray × Unit) ⊕ (Bool × Unit) → Option R) : Option R :=
 let x24 := d.1;
 let x25 := d.2.1;
 let x26 := d.2.2.1;
 ifB (pLt x26 x25) (
 bindO (bidx x24 x26) fun y27 =>
 bindO (
 ifB (pGe y27 97) (
 bindO (bidx x24 x26) fun y29 =>
 some (pLe y29 122)) (
 some false)) fun y28 =>
 bindO (
 ifB y28 (
 some true) (
 bindO (bidx x24 x26) fun y31 =>
 some (pEq y31 45))) fun y30 =>
 ifB (pNot y30) (
 kx (.inr (false, ()))) (
 kn (x24, x25, (pAdd .i64 x26 1), ()))) (
 kx (.inl (x24, ())))
def zAC (N : Nat) (a0 : ByteArray) : Option (Bool) :=
 loopP (zAC.l2 N) N (a0, (pSize a0), 0, ()) (
 onSum (fun d =>
 let x32 := d.1;
 bindO (zAR N (pSize x32) 1 20) fun y33 =>
 some y33) (
 fun d =>
 let x34 := d.1;
 some x34))
def zAN (N : Nat) : Option (List ByteArray) :=
 some [(ByteArray.mk #[108, 101, 116]), (ByteArray.mk #[105, 102]), (ByteArray.mk #[119, 104, 105, 108, 101]), (ByteArray.mk #[105, 110, 115, 101, 114, 116]), (ByteArray.mk #[100, 101, 108, 101, 116, 101]), (ByteArray.mk #[103, 111]), (ByteArray.mk #[109, 97, 114, 107]), (ByteArray.mk #[98, 101, 108, 108]), (ByteArray.mk #[100, 111])]
def zA1.l2 {R : Type} (N : Nat) (d : List ByteArray × ByteArray × Int × Int × Unit) (kn : List ByteArray × ByteArray × Int × Int × Unit → Option R) (kx : (Unit) ⊕ (Int × Unit) → Option R) : Option R :=
 let x12 := d.1;
 let x13 := d.2.1;
 let x14 := d.2.2.1;
 let x15 := d.2.2.2.1;
 ifB (pLt x15 x14) (
 bindO (idx x12 x15) fun y16 =>
 ifB (pSEq x13 y16) (
 kx (.inr (x15, ()))) (
 kn (x12, x13, x14, (pAdd .i64 x15 1), ()))) (
 kx (.inl (())))
def zA1 (N : Nat) (a0 : List (ByteArray)) (a1 : ByteArray) : Option (Int) :=
 loopP (zA1.l2 N) N (a0, a1, (pLen a0), 0, ()) (
 onSum (fun d =>
 some (-1)) (
 fun d =>
 let x17 := d.1;
 some x17))
def zA6 (N : Nat) (a0 : List (ByteArray)) (a1 : ByteArray) : Option (Bool) :=
 bindO (zA1 N a0 a1) fun y1 =>
 some (pGe y1 0)
def zBA (N : Nat) : Option (Option (List (ByteArray × Int))) :=
 ifB (mOk (A := Int) (mNew (A := Int))) (
 ifB (mOk (A := Int) (mSet (A := Int) (mNew (A := Int)) (ByteArray.mk #[99, 117, 114, 115, 111, 114]) 13)) (
 ifB (mOk (A := Int) (mSet (A := Int) (mSet (A := Int) (mNew (A := Int)) (ByteArray.mk #[99, 117, 114, 115, 111, 114]) 13) (ByteArray.mk #[108, 101, 110, 103, 116, 104]) 14)) (
 ifB (mOk (A := Int) (mSet (A := Int) (mSet (A := Int) (mSet (A := Int) (mNew (A := Int)) (ByteArray.mk #[99, 117, 114, 115, 111, 114]) 13) (ByteArray.mk #[108, 101, 110, 103, 116, 104]) 14) (ByteArray.mk #[109, 97, 114, 107, 97, 116]) 15)) (
 ifB (mOk (A := Int) (mSet (A := Int) (mSet (A := Int) (mSet (A := Int) (mSet (A := Int) (mNew (A := Int)) (ByteArray.mk #[99, 117, 114, 115, 111, 114]) 13) (ByteArray.mk #[108, 101, 110, 103, 116, 104]) 14) (ByteArray.mk #[109, 97, 114, 107, 97, 116]) 15) (ByteArray.mk #[97, 116]) 16)) (
 some (mSet (A := Int) (mSet (A := Int) (mSet (A := Int) (mSet (A := Int) (mSet (A := Int) (mNew (A := Int)) (ByteArray.mk #[99, 117, 114, 115, 111, 114]) 13) (ByteArray.mk #[108, 101, 110, 103, 116, 104]) 14) (ByteArray.mk #[109, 97, 114, 107, 97, 116]) 15) (ByteArray.mk #[97, 116]) 16) (ByteArray.mk #[110, 111, 116]) 17)) (
 none)) (
 none)) (
 none)) (
 none)) (
 none)
def zAW (N : Nat) (a0 : ByteArray) : Option (Bool) :=
 bindO (zAC N a0) fun y11 =>
 bindO (
 ifB y11 (
 some (pNot (pSEq a0 (ByteArray.mk #[101, 108, 115, 101])))) (
 some false)) fun y12 =>
 bindO (
 ifB y12 (
 some (pNot (pSEq a0 (ByteArray.mk #[111, 114])))) (
 some false)) fun y13 =>
 bindO (
 ifB y13 (
 some (pNot (pSEq a0 (ByteArray.mk #[97, 110, 100])))) (
 some false)) fun y14 =>
 bindO (
 ifB y14 (
 bindO (zAN N) fun y16 =>
 bindO (zA6 N y16 a0) fun y17 =>
 some (pNot y17)) (
 some false)) fun y15 =>
 bindO (
 ifB y15 (
 bindO (zBA N) fun y19 =>
 some (pEq (mGetI y19 a0) 0)) (
 some false)) fun y18 =>
 bindO (
 ifB y18 (
 bindO (bidx a0 0) fun y21 =>
 some (pNe y21 45)) (
 some false)) fun y20 =>
 some y20
def zAU (N : Nat) (a0 : Int × Int × ByteArray × Int × Unit) : Option (Bool) :=
 ifB (pEq a0.1 2) (
 bindO (
 ifB (pEq a0.2.1 0) (
 bindO (zAW N a0.2.2.1) fun y10 =>
 some y10) (
 some false)) fun y9 =>
 some y9) (
 ifB (pEq a0.1 12) (
 bindO (
 ifB (pEq a0.2.1 0) (
 bindO (zAW N a0.2.2.1) fun y12 =>
 some y12) (
 some false)) fun y11 =>
 some y11) (
 ifB (pEq a0.1 10) (
 ifB (pEq a0.2.1 0) (
 bindO (zB8 N) fun y13 =>
 bindO (zA6 N y13 a0.2.2.1) fun y14 =>
 some y14) (
 some false)) (
 ifB (pEq a0.1 11) (
 bindO (
 ifB (pSEq a0.2.2.1 (ByteArray.mk #[])) (
 bindO (zAR N a0.2.1 0 999999999) fun y16 =>
 some y16) (
 some false)) fun y15 =>
 some y15) (
 bindO (
 ifB (pSEq a0.2.2.1 (ByteArray.mk #[])) (
 some (pEq a0.2.1 0)) (
 some false)) fun y17 =>
 some y17))))
def zAY (N : Nat) (a0 : Int × Int × ByteArray × Int × Unit) (a1 : Int) (a2 : Int) (a3 : List (ByteArray)) : Option (Int × List ByteArray) :=
 bindO (
 ifB (pEq a0.1 2) (
 some true) (
 some (pEq a0.1 12))) fun y3 =>
 bindO (
 ifB y3 (
 bindO (zA6 N a3 a0.2.2.1) fun y5 =>
 some (pNot y5)) (
 some false)) fun y4 =>
 ifB y4 (
 ifB (pFit a3 [a0.2.2.1]) (
 some ((pMax a2 a1), (pApp a3 [a0.2.2.1]))) (
 none)) (
 some ((pMax a2 a1), a3))
def zBG (N : Nat) (a0 : Int × Int × ByteArray × Int × Unit) (a1 : Int) (a2 : Int × Int × ByteArray × Int × Unit) : Option (Bool) :=
 ifB (pEq a0.1 1) (
 bindO (zAR N a2.1 2 10) fun y7 =>
 some y7) (
 bindO (
 ifB (pGt a1 0) (
 bindO (
 ifB (pEq a0.1 3) (
 some true) (
 some (pEq a0.1 4))) fun y9 =>
 some y9) (
 some false)) fun y8 =>
 ifB y8 (
 some (pEq a2.1 1)) (
 bindO (zAR N a2.1 11 26) fun y10 =>
 some y10))
def zA0.l10 {R : Type} (N : Nat) (rc : (List (Int × Int × ByteArray × Int × Unit)) → (Int) → (Int) → (Int) → (List (ByteArray)) → Option (Int × Int × List (ByteArray))) (d : (List (Int × Int × ByteArray × Int × Unit)) × Int × Int × Int × Int × Int × List ByteArray × (Int × Int × ByteArray × Int × Unit) × Unit) (kn : (List (Int × Int × ByteArray × Int × Unit)) × Int × Int × Int × Int × Int × List ByteArray × (Int × Int × ByteArray × Int × Unit) × Unit → Option R) (kx : (Int × Int × List ByteArray × Unit) ⊕ (Int × Int × List ByteArray × Unit) → Option R) : Option R :=
 let x49 := d.1;
 let x50 := d.2.1;
 let x51 := d.2.2.1;
 let x52 := d.2.2.2.1;
 let x53 := d.2.2.2.2.1;
 let x54 := d.2.2.2.2.2.1;
 let x55 := d.2.2.2.2.2.2.1;
 let x56 := d.2.2.2.2.2.2.2.1;
 ifB (pLt x53 x52) (
 ifB (pGe x50 (pLen x49)) (
 kx (.inr ((-1), x54, x55, ()))) (
 bindO (idx x49 x50) fun y57 =>
 bindO (zBG N x56 x53 y57) fun y58 =>
 ifB (pNot y58) (
 kx (.inr ((-1), x54, x55, ()))) (
 bindO (rc x49 x50 (pAdd .i64 x51 1) x54 x55) fun y59 =>
 ifB (pLt y59.1 0) (
 kx (.inr ((-1), y59.2.1, y59.2.2, ()))) (
 kn (x49, y59.1, x51, x52, (pAdd .i64 x53 1), y59.2.1, y59.2.2, x56, ()))))) (
 kx (.inl (x50, x54, x55, ())))
def zA0.st (N : Nat) (rc : (List (Int × Int × ByteArray × Int × Unit)) → (Int) → (Int) → (Int) → (List (ByteArray)) → Option (Int × Int × List (ByteArray))) (a0 : List (Int × Int × ByteArray × Int × Unit)) (a1 : Int) (a2 : Int) (a3 : Int) (a4 : List (ByteArray)) : Option (Int × Int × List ByteArray) :=
 bindO (
 ifB (pGe a1 (pLen a0)) (
 some true) (
 some (pGt a2 20))) fun y40 =>
 ifB y40 (
 some ((-1), a3, a4)) (
 bindO (idx a0 a1) fun y41 =>
 bindO (zBD N y41.1) fun y42 =>
 bindO (zAR N y41.1 1 26) fun y43 =>
 bindO (
 ifB (pNot y43) (
 some true) (
 bindO (zAR N y41.2.2.2.1 y42.1 y42.2) fun y45 =>
 some (pNot y45))) fun y44 =>
 bindO (
 ifB y44 (
 some true) (
 bindO (zAU N y41) fun y47 =>
 some (pNot y47))) fun y46 =>
 ifB y46 (
 some ((-1), a3, a4)) (
 bindO (zAY N y41 a2 a3 a4) fun y48 =>
 loopP (zA0.l10 N rc) N (a0, (pAdd .i64 a1 1), a2, y41.2.2.2.1, 0, y48.1, y48.2, y41, ()) (
 onSum (fun d =>
 let x60 := d.1;
 let x61 := d.2.1;
 let x62 := d.2.2.1;
 some (x60, x61, x62)) (
 fun d =>
 let x63 := d.1;
 let x64 := d.2.1;
 let x65 := d.2.2.1;
 some (x63, x64, x65)))))
def zA0 (N : Nat) : (List (Int × Int × ByteArray × Int × Unit)) → (Int) → (Int) → (Int) → (List (ByteArray)) → Option (Int × Int × List (ByteArray)) := Nat.rec (motive := fun _ => (List (Int × Int × ByteArray × Int × Unit)) → (Int) → (Int) → (Int) → (List (ByteArray)) → Option (Int × Int × List (ByteArray))) (fun _ _ _ _ _ => none) (fun n rc => zA0.st n rc) N
def zBB (N : Nat) (a0 : List (Int × Int × ByteArray × Int × Unit)) : Option (List ByteArray × Int × Bool) :=
 bindO (
 ifB (pEq (pLen a0) 0) (
 some true) (
 some (pGt (pLen a0) 200))) fun y4 =>
 bindO (
 ifB y4 (
 some true) (
 bindO (idx a0 0) fun y6 =>
 some (pNe y6.1 1))) fun y5 =>
 ifB y5 (
 some ([], 0, false)) (
 bindO (zA0 N a0 0 1 0 []) fun y7 =>
 ifB (pEq y7.1 (pLen a0)) (
 some (y7.2.2, y7.2.1, (pLe (pLen y7.2.2) 8))) (
 some (y7.2.2, y7.2.1, false)))
def zAO (N : Nat) (a0 : (List (Int × Int × ByteArray × Int × Unit)) × List (ByteArray) × (List (Int × Int × Unit)) × Unit) (a1 : Int) (a2 : Int) : Option (Int × (List (Int × Int × ByteArray × Int × Unit)) × List ByteArray × (List (Int × Int × Unit)) × Unit) :=
 ifB (pFit a0.2.2.1 [(a1, (a2, ()))]) (
 some ((pSub .i64 (pLen (pApp a0.2.2.1 [(a1, (a2, ()))])) 1), (a0.1, (a0.2.1, ((pApp a0.2.2.1 [(a1, (a2, ()))]), a0.2.2.2))))) (
 none)
def zAT (N : Nat) (a0 : (List (Int × Int × ByteArray × Int × Unit)) × List (ByteArray) × (List (Int × Int × Unit)) × Unit) : Option (Int) :=
 bindO (zAQ N a0.2.2.1) fun y1 =>
 some y1
def zAZ (N : Nat) (a0 : ByteArray) : Option (Int) :=
 bindO (zB8 N) fun y2 =>
 bindO (zA1 N y2 a0) fun y3 =>
 some (pAdd .i64 y3 1)
def zB6 (N : Nat) (a0 : Int) : Option (Int) :=
 ifB (pEq a0 13) (
 some 5) (
 ifB (pEq a0 14) (
 some 6) (
 ifB (pEq a0 15) (
 some 7) (
 ifB (pEq a0 16) (
 some 8) (
 ifB (pEq a0 17) (
 some 9) (
 ifB (pEq a0 5) (
 some 13) (
 ifB (pEq a0 6) (
 some 14) (
 ifB (pEq a0 7) (
 some 15) (
 ifB (pEq a0 8) (
 some 16) (
 ifB (pEq a0 9) (
 some 17) (
 some 0))))))))))
def zA3.l25 {R : Type} (N : Nat) (rc : ((List (Int × Int × ByteArray × Int × Unit)) × List (ByteArray) × (List (Int × Int × Unit)) × Unit) → (Int) → Option (Int × (List (Int × Int × ByteArray × Int × Unit)) × List (ByteArray) × (List (Int × Int × Unit)) × Unit)) (d : Int × Int × Int × ((List (Int × Int × ByteArray × Int × Unit)) × List ByteArray × (List (Int × Int × Unit)) × Unit) × (Int × Int × ByteArray × Int × Unit) × Unit) (kn : Int × Int × Int × ((List (Int × Int × ByteArray × Int × Unit)) × List ByteArray × (List (Int × Int × Unit)) × Unit) × (Int × Int × ByteArray × Int × Unit) × Unit → Option R) (kx : Int × ((List (Int × Int × ByteArray × Int × Unit)) × List ByteArray × (List (Int × Int × Unit)) × Unit) × (Int × Int × ByteArray × Int × Unit) × Unit → Option R) : Option R :=
 let x74 := d.1;
 let x75 := d.2.1;
 let x76 := d.2.2.1;
 let x77 := d.2.2.2.1;
 let x78 := d.2.2.2.2.1;
 ifB (pLt x76 x75) (
 bindO (rc x77 x74) fun y79 =>
 kn (y79.1, x75, (pAdd .i64 x76 1), y79.2, x78, ())) (
 kx (x74, x77, x78, ()))
end Go.AE.F
end
