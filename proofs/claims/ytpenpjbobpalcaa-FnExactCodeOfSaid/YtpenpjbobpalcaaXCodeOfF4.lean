/- Functions as they are printed out of the program: plain Lean, nothing is claimed here. -/
import Derived.Test.YtpenpjbobpalcaaXCodeOfF3
noncomputable section
namespace Go.AE.F
open Go.AE
def zA3.st (N : Nat) (rc : ((List (Int × Int × ByteArray × Int × Unit)) × List (ByteArray) × (List (Int × Int × Unit)) × Unit) → (Int) → Option (Int × (List (Int × Int × ByteArray × Int × Unit)) × List (ByteArray) × (List (Int × Int × Unit)) × Unit)) (a0 : (List (Int × Int × ByteArray × Int × Unit)) × List (ByteArray) × (List (Int × Int × Unit)) × Unit) (a1 : Int) : Option (Int × (List (Int × Int × ByteArray × Int × Unit)) × List ByteArray × (List (Int × Int × Unit)) × Unit) :=
 bindO (idx a0.1 a1) fun y50 =>
 bindO (zAO N a0 1 0) fun y51 =>
 ifB (pEq y50.1 3) (
 bindO (rc y51.2 (pAdd .i64 a1 1)) fun y52 =>
 bindO (zAO N y52.2 12 0) fun y53 =>
 bindO (rc y53.2 y52.1) fun y54 =>
 ifB (pEq y50.2.2.2.1 3) (
 bindO (zAO N y54.2 11 0) fun y55 =>
 bindO (zAT N y55.2) fun y56 =>
 bindO (idx y55.2.2.2.1 y53.1) fun y57 =>
 bindO (idx y55.2.2.2.1 y53.1) fun y58 =>
 bindO (rc (y55.2.1, (y55.2.2.1, ((pSet y55.2.2.2.1 y53.1 (y58.1, (y56, y58.2.2))), y55.2.2.2.2))) y54.1) fun y59 =>
 bindO (zAT N y59.2) fun y60 =>
 bindO (idx y59.2.2.2.1 y55.1) fun y61 =>
 bindO (idx y59.2.2.2.1 y55.1) fun y62 =>
 some (y59.1, (y59.2.1, (y59.2.2.1, ((pSet y59.2.2.2.1 y55.1 (y62.1, (y60, y62.2.2))), y59.2.2.2.2))))) (
 bindO (zAT N y54.2) fun y63 =>
 bindO (idx y54.2.2.2.1 y53.1) fun y64 =>
 bindO (idx y54.2.2.2.1 y53.1) fun y65 =>
 some (y54.1, (y54.2.1, (y54.2.2.1, ((pSet y54.2.2.2.1 y53.1 (y65.1, (y63, y65.2.2))), y54.2.2.2.2)))))) (
 ifB (pEq y50.1 4) (
 bindO (zAT N y51.2) fun y66 =>
 bindO (rc y51.2 (pAdd .i64 a1 1)) fun y67 =>
 bindO (zAO N y67.2 12 0) fun y68 =>
 bindO (rc y68.2 y67.1) fun y69 =>
 bindO (zAO N y69.2 11 y66) fun y70 =>
 bindO (zAT N y70.2) fun y71 =>
 bindO (idx y70.2.2.2.1 y68.1) fun y72 =>
 bindO (idx y70.2.2.2.1 y68.1) fun y73 =>
 some (y69.1, (y70.2.1, (y70.2.2.1, ((pSet y70.2.2.2.1 y68.1 (y73.1, (y71, y73.2.2))), y70.2.2.2.2))))) (
 loopP (zA3.l25 N rc) N ((pAdd .i64 a1 1), y50.2.2.2.1, 0, y51.2, y50, ()) (
 fun d =>
 let x80 := d.1;
 let x81 := d.2.1;
 let x82 := d.2.2.1;
 ifB (pEq x82.1 1) (
 some (x80, x81)) (
 ifB (pEq x82.1 2) (
 bindO (zA1 N x81.2.1 x82.2.2.1) fun y83 =>
 bindO (zAO N x81 4 y83) fun y84 =>
 some (x80, y84.2)) (
 ifB (pEq x82.1 12) (
 bindO (zA1 N x81.2.1 x82.2.2.1) fun y85 =>
 bindO (zAO N x81 3 y85) fun y86 =>
 some (x80, y86.2)) (
 ifB (pEq x82.1 11) (
 bindO (zAO N x81 2 x82.2.1) fun y87 =>
 some (x80, y87.2)) (
 ifB (pEq x82.1 10) (
 bindO (zAZ N x82.2.2.1) fun y88 =>
 bindO (zAO N x81 18 y88) fun y89 =>
 some (x80, y89.2)) (
 bindO (zB6 N x82.1) fun y90 =>
 ifB (pGt y90 0) (
 bindO (zAO N x81 y90 0) fun y91 =>
 some (x80, y91.2)) (
 bindO (zAO N x81 10 x82.1) fun y92 =>
 some (x80, y92.2))))))))))
def zA3 (N : Nat) : ((List (Int × Int × ByteArray × Int × Unit)) × List (ByteArray) × (List (Int × Int × Unit)) × Unit) → (Int) → Option (Int × (List (Int × Int × ByteArray × Int × Unit)) × List (ByteArray) × (List (Int × Int × Unit)) × Unit) := Nat.rec (motive := fun _ => ((List (Int × Int × ByteArray × Int × Unit)) × List (ByteArray) × (List (Int × Int × Unit)) × Unit) → (Int) → Option (Int × (List (Int × Int × ByteArray × Int × Unit)) × List (ByteArray) × (List (Int × Int × Unit)) × Unit)) (fun _ _ => none) (fun n rc => zA3.st n rc) N
def zB9 (N : Nat) (a0 : List (Int × Int × ByteArray × Int × Unit)) : Option (List (Int × Int × Unit)) :=
 bindO (zBB N a0) fun y2 =>
 ifB (pNot y2.2.2) (
 some []) (
 bindO (zA3 N (a0, (y2.1, ([], ()))) 0) fun y3 =>
 some y3.2.2.2.1)
def zBC (N : Nat) (a0 : Int × Int × ByteArray × Int × Unit) (a1 : Int × Int × ByteArray × Int × Unit) : Option (Bool) :=
 ifB (pNe a0.1 a1.1) (
 some false) (
 ifB (pNe a0.2.1 a1.2.1) (
 some false) (
 ifB (pNot (pSEq a0.2.2.1 a1.2.2.1)) (
 some false) (
 ifB (pNe a0.2.2.2.1 a1.2.2.2.1) (
 some false) (
 some true))))
def zAJ.l4 {R : Type} (N : Nat) (d : (List (Int × Int × ByteArray × Int × Unit)) × (List (Int × Int × ByteArray × Int × Unit)) × Int × Unit) (kn : (List (Int × Int × ByteArray × Int × Unit)) × (List (Int × Int × ByteArray × Int × Unit)) × Int × Unit → Option R) (kx : (Unit) ⊕ (Bool × Unit) → Option R) : Option R :=
 let x16 := d.1;
 let x17 := d.2.1;
 let x18 := d.2.2.1;
 ifB (pLt x18 (pLen x16)) (
 bindO (idx x16 x18) fun y19 =>
 bindO (idx x17 x18) fun y20 =>
 bindO (zBC N y19 y20) fun y21 =>
 ifB (pNot y21) (
 kx (.inr (false, ()))) (
 kn (x16, x17, (pAdd .i64 x18 1), ()))) (
 kx (.inl (())))
def zAJ (N : Nat) (a0 : List (Int × Int × ByteArray × Int × Unit)) (a1 : List (Int × Int × ByteArray × Int × Unit)) : Option (Bool) :=
 ifB (pNe (pLen a0) (pLen a1)) (
 some false) (
 loopP (zAJ.l4 N) N (a0, a1, 0, ()) (
 onSum (fun d =>
 some true) (
 fun d =>
 let x22 := d.1;
 some x22)))
def zAB.l2 {R : Type} (N : Nat) (d : Int × Int × (List (Int × Int × ByteArray × Int × Unit)) × Unit) (kn : Int × Int × (List (Int × Int × ByteArray × Int × Unit)) × Unit → Option R) (kx : Int × (List (Int × Int × ByteArray × Int × Unit)) × Unit → Option R) : Option R :=
 let x35 := d.1;
 let x36 := d.2.1;
 let x37 := d.2.2.1;
 ifB (pLt x36 (pLen x37)) (
 bindO (idx x37 x36) fun y38 =>
 bindO (idx x37 x36) fun y39 =>
 bindO (idx (pSet x37 x36 (x35, y39.2)) x36) fun y40 =>
 bindO (idx (pSet x37 x36 (x35, y39.2)) x36) fun y41 =>
 bindO (zAD N (pAdd .i64 (pAdd .i64 x35 1) 1)) fun y42 =>
 bindO (idx (pSet (pSet x37 x36 (x35, y39.2)) x36 (y41.1, ((pAdd .i64 x35 1), y41.2.2))) x36) fun y43 =>
 bindO (idx (pSet (pSet x37 x36 (x35, y39.2)) x36 (y41.1, ((pAdd .i64 x35 1), y41.2.2))) x36) fun y44 =>
 bindO (idx (pSet (pSet (pSet x37 x36 (x35, y39.2)) x36 (y41.1, ((pAdd .i64 x35 1), y41.2.2))) x36 (y44.1, (y44.2.1, (y42, y44.2.2.2)))) x36) fun y45 =>
 bindO (idx (pSet (pSet (pSet x37 x36 (x35, y39.2)) x36 (y41.1, ((pAdd .i64 x35 1), y41.2.2))) x36 (y44.1, (y44.2.1, (y42, y44.2.2.2)))) x36) fun y46 =>
 kn ((pAdd .i64 (pAdd .i64 (pAdd .i64 (pAdd .i64 x35 1) 1) 1) 1), (pAdd .i64 x36 1), (pSet (pSet (pSet (pSet x37 x36 (x35, y39.2)) x36 (y41.1, ((pAdd .i64 x35 1), y41.2.2))) x36 (y44.1, (y44.2.1, (y42, y44.2.2.2)))) x36 (y46.1, (y46.2.1, (y46.2.2.1, ((pAdd .i64 (pAdd .i64 (pAdd .i64 x35 1) 1) 1), y46.2.2.2.2))))), ())) (
 kx (x35, x37, ()))
def zAB (N : Nat) (a0 : List (Int × Int × ByteArray × Int × Unit)) (a1 : Int) : Option (Int × List (Int × Int × ByteArray × Int × Unit)) :=
 loopP (zAB.l2 N) N (a1, 0, a0, ()) (
 fun d =>
 let x47 := d.1;
 let x48 := d.2.1;
 some (x47, x48))
def zAH.l2 {R : Type} (N : Nat) (d : (List (Int × Int × Unit)) × Int × Int × Unit) (kn : (List (Int × Int × Unit)) × Int × Int × Unit → Option R) (kx : (Int × Unit) ⊕ (Int × Unit) → Option R) : Option R :=
 let x14 := d.1;
 let x15 := d.2.1;
 let x16 := d.2.2.1;
 ifB (pLt x16 (pLen x14)) (
 bindO (idx x14 x16) fun y17 =>
 ifB (pNe y17.1 x15) (
 kx (.inr ((-1), ()))) (
 bindO (idx x14 x16) fun y18 =>
 ifB (pNe y18.2.1 (pAdd .i64 x15 1)) (
 kx (.inr ((-1), ()))) (
 kn (x14, (pAdd .i64 (pAdd .i64 x15 1) 1), (pAdd .i64 x16 1), ())))) (
 kx (.inl (x15, ())))
def zAH (N : Nat) (a0 : List (Int × Int × Unit)) (a1 : Int) : Option (Int) :=
 loopP (zAH.l2 N) N (a0, a1, 0, ()) (
 onSum (fun d =>
 let x19 := d.1;
 some x19) (
 fun d =>
 let x20 := d.1;
 some x20))
def zAP (N : Nat) (a0 : List (Int × Int × ByteArray × Int × Unit)) : Option (Bool) :=
 bindO (zAK N a0 1048576) fun y17 =>
 ifB (pLt y17 0) (
 some true) (
 bindO (zAE N a0) fun y18 =>
 bindO (zB5 N y18) fun y19 =>
 bindO (zAE N a0) fun y20 =>
 bindO (zB9 N y20) fun y21 =>
 bindO (zAM N y21 y19) fun y22 =>
 ifB (pNot y22) (
 some false) (
 bindO (zAE N a0) fun y23 =>
 bindO (zAJ N y20 y23) fun y24 =>
 ifB (pNot y24) (
 some false) (
 bindO (zAB N y20 1) fun y25 =>
 bindO (
 ifB (pLt y25.1 0) (
 some true) (
 bindO (zAM N y21 y19) fun y27 =>
 some (pNot y27))) fun y26 =>
 ifB y26 (
 some false) (
 bindO (zAI N y21 1) fun y28 =>
 bindO (zAH N y28.2 1) fun y29 =>
 ifB (pLt y29 0) (
 some false) (
 ifB (pNe y29 y28.1) (
 some false) (
 bindO (zAE N a0) fun y30 =>
 bindO (zB9 N y30) fun y31 =>
 bindO (zAM N y31 y19) fun y32 =>
 ifB (pNot y32) (
 some false) (
 bindO (zAH N y28.2 1) fun y33 =>
 ifB (pLt y33 0) (
 some false) (
 ifB (pNe y33 y28.1) (
 some false) (
 some true)))))))))
end Go.AE.F
end
