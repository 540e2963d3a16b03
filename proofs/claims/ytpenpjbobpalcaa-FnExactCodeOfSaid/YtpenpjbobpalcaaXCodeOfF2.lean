/- Functions as they are printed out of the program: plain Lean, nothing is claimed here. -/
import Derived.Test.YtpenpjbobpalcaaXCodeOfF1
noncomputable section
namespace Go.AE.F
open Go.AE
def zA7.st (N : Nat) (rc : (List (Int × Int × ByteArray × Int × Unit)) → (Int) → (Int) → (Int) → Option (Int)) (a0 : List (Int × Int × ByteArray × Int × Unit)) (a1 : Int) (a2 : Int) (a3 : Int) : Option (Int) :=
 bindO (
 ifB (pGe a1 (pLen a0)) (
 some true) (
 some (pGt a3 20))) fun y50 =>
 bindO (
 ifB y50 (
 some true) (
 bindO (idx a0 a1) fun y52 =>
 bindO (zB7 N y52) fun y53 =>
 some (pNot y53))) fun y51 =>
 ifB y51 (
 some (-1)) (
 bindO (idx a0 a1) fun y54 =>
 bindO (
 ifB (pEq a2 98) (
 some (pNe y54.1 1)) (
 some false)) fun y55 =>
 bindO (
 ifB y55 (
 some true) (
 bindO (
 ifB (pEq a2 115) (
 bindO (zB3 N y54.1) fun y58 =>
 some (pNot y58)) (
 some false)) fun y57 =>
 some y57)) fun y56 =>
 bindO (
 ifB y56 (
 some true) (
 bindO (
 ifB (pEq a2 101) (
 bindO (zB2 N y54.1) fun y61 =>
 some (pNot y61)) (
 some false)) fun y60 =>
 some y60)) fun y59 =>
 ifB y59 (
 some (-1)) (
 bindO (zB4 N y54) fun y62 =>
 bindO (
 ifB (pNot (pSEq y62 (ByteArray.mk #[42]))) (
 some (pNe y54.2.2.2.1 (pSize y62))) (
 some false)) fun y63 =>
 bindO (
 ifB y63 (
 some true) (
 some (pLt y54.2.2.2.1 0))) fun y64 =>
 bindO (
 ifB y64 (
 some true) (
 some (pGt y54.2.2.2.1 200))) fun y65 =>
 ifB y65 (
 some (-1)) (
 loopP (zA7.l11 N rc) N (a0, a3, y62, (pAdd .i64 a1 1), 0, y54, ()) (
 onSum (fun d =>
 let x82 := d.1;
 some x82) (
 fun d =>
 let x83 := d.1;
 some x83)))))
def zA7 (N : Nat) : (List (Int × Int × ByteArray × Int × Unit)) → (Int) → (Int) → (Int) → Option (Int) := Nat.rec (motive := fun _ => (List (Int × Int × ByteArray × Int × Unit)) → (Int) → (Int) → (Int) → Option (Int)) (fun _ _ _ _ => none) (fun n rc => zA7.st n rc) N
def zA5.l8 {R : Type} (N : Nat) (d : (List (Int × Int × ByteArray × Int × Unit)) × Int × Bool × Int × List ByteArray × Unit) (kn : (List (Int × Int × ByteArray × Int × Unit)) × Int × Bool × Int × List ByteArray × Unit → Option R) (kx : (List (Int × Int × ByteArray × Int × Unit)) × Int × Bool × List ByteArray × Unit → Option R) : Option R :=
 let x61 := d.1;
 let x62 := d.2.1;
 let x63 := d.2.2.1;
 let x64 := d.2.2.2.1;
 let x65 := d.2.2.2.2.1;
 ifB (pLt x64 (pLen x65)) (
 bindO (A := (List (Int × Int × ByteArray × Int × Unit)) × Int × Bool × Int × List ByteArray × Unit) (
 ifB x63 (
 some (x61, x62, true, x64, x65, ())) (
 bindO (idx x65 x64) fun y66 =>
 bindO (idx x65 x64) fun y67 =>
 bindO (idx x61 x62) fun y68 =>
 some (x61, x62, (pSEq y67 y68.2.2.1), x64, x65, ()))) (
 fun d =>
 let x69 := d.1;
 let x70 := d.2.1;
 let x71 := d.2.2.1;
 let x72 := d.2.2.2.1;
 let x73 := d.2.2.2.2.1;
 kn (x69, x70, x71, (pAdd .i64 x72 1), x73, ()))) (
 kx (x61, x62, x63, x65, ()))
def zA5.l3 {R : Type} (N : Nat) (d : (List (Int × Int × ByteArray × Int × Unit)) × Int × List ByteArray × Unit) (kn : (List (Int × Int × ByteArray × Int × Unit)) × Int × List ByteArray × Unit → Option R) (kx : List ByteArray × Unit → Option R) : Option R :=
 let x55 := d.1;
 let x56 := d.2.1;
 let x57 := d.2.2.1;
 ifB (pLt x56 (pLen x55)) (
 bindO (A := (List (Int × Int × ByteArray × Int × Unit)) × Int × List ByteArray × Unit) (
 bindO (idx x55 x56) fun y58 =>
 bindO (
 ifB (pNe y58.1 2) (
 bindO (idx x55 x56) fun y60 =>
 some (pNe y60.1 12)) (
 some false)) fun y59 =>
 ifB y59 (
 some (x55, x56, x57, ())) (
 loopP (zA5.l8 N) N (x55, x56, false, 0, x57, ()) (
 fun d =>
 let x74 := d.1;
 let x75 := d.2.1;
 let x76 := d.2.2.1;
 let x77 := d.2.2.2.1;
 ifB (pNot x76) (
 bindO (idx x74 x75) fun y78 =>
 ifB (pFit x77 [y78.2.2.1]) (
 some (x74, x75, (pApp x77 [y78.2.2.1]), ())) (
 none)) (
 some (x74, x75, x77, ()))))) (
 fun d =>
 let x79 := d.1;
 let x80 := d.2.1;
 let x81 := d.2.2.1;
 kn (x79, (pAdd .i64 x80 1), x81, ()))) (
 kx (x57, ()))
def zA5 (N : Nat) (a0 : List (Int × Int × ByteArray × Int × Unit)) : Option (List ByteArray) :=
 loopP (zA5.l3 N) N (a0, 0, [], ()) (
 fun d =>
 let x82 := d.1;
 some x82)
def zAV (N : Nat) (a0 : List (Int × Int × ByteArray × Int × Unit)) : Option (Bool) :=
 bindO (
 ifB (pLe (pLen a0) 200) (
 bindO (zA7 N a0 0 98 1) fun y5 =>
 some (pEq y5 (pLen a0))) (
 some false)) fun y4 =>
 bindO (
 ifB y4 (
 bindO (zA5 N a0) fun y7 =>
 some (pLe (pLen y7) 8)) (
 some false)) fun y6 =>
 some y6
def zAA (N : Nat) (a0 : (List (Int × Int × ByteArray × Int × Unit)) × List (ByteArray) × (List (Int × Int × Unit)) × Unit) (a1 : Int) (a2 : Int) : Option (Int × (List (Int × Int × ByteArray × Int × Unit)) × List ByteArray × (List (Int × Int × Unit)) × Unit) :=
 ifB (pFit a0.2.2.1 [(a1, (a2, ()))]) (
 some ((pSub .i64 (pLen (pApp a0.2.2.1 [(a1, (a2, ()))])) 1), (a0.1, (a0.2.1, ((pApp a0.2.2.1 [(a1, (a2, ()))]), a0.2.2.2))))) (
 none)
def zAL (N : Nat) (a0 : (List (Int × Int × ByteArray × Int × Unit)) × List (ByteArray) × (List (Int × Int × Unit)) × Unit) : Option (Int) :=
 some (pLen a0.2.2.1)
def zA4.l2 {R : Type} (N : Nat) (d : ((List (Int × Int × ByteArray × Int × Unit)) × List ByteArray × (List (Int × Int × Unit)) × Unit) × ByteArray × Int × Unit) (kn : ((List (Int × Int × ByteArray × Int × Unit)) × List ByteArray × (List (Int × Int × Unit)) × Unit) × ByteArray × Int × Unit → Option R) (kx : (Unit) ⊕ (Int × Unit) → Option R) : Option R :=
 let x10 := d.1;
 let x11 := d.2.1;
 let x12 := d.2.2.1;
 ifB (pLt x12 (pLen x10.2.1)) (
 bindO (idx x10.2.1 x12) fun y13 =>
 ifB (pSEq y13 x11) (
 kx (.inr (x12, ()))) (
 kn (x10, x11, (pAdd .i64 x12 1), ()))) (
 kx (.inl (())))
def zA4 (N : Nat) (a0 : (List (Int × Int × ByteArray × Int × Unit)) × List (ByteArray) × (List (Int × Int × Unit)) × Unit) (a1 : ByteArray) : Option (Int) :=
 loopP (zA4.l2 N) N (a0, a1, 0, ()) (
 onSum (fun d =>
 some 0) (
 fun d =>
 let x14 := d.1;
 some x14))
def zB1 (N : Nat) (a0 : Int) : Option (Int) :=
 ifB (pEq a0 13) (
 some 5) (
 ifB (pEq a0 14) (
 some 6) (
 ifB (pEq a0 15) (
 some 7) (
 ifB (pEq a0 16) (
 some 8) (
 ifB (pEq a0 17) (
 some 9) (
 ifB (pEq a0 5) (
 some 13) (
 ifB (pEq a0 6) (
 some 14) (
 ifB (pEq a0 7) (
 some 15) (
 ifB (pEq a0 8) (
 some 16) (
 ifB (pEq a0 9) (
 some 17) (
 some 0))))))))))
def zA2.l25 {R : Type} (N : Nat) (rc : ((List (Int × Int × ByteArray × Int × Unit)) × List (ByteArray) × (List (Int × Int × Unit)) × Unit) → (Int) → Option (Int × (List (Int × Int × ByteArray × Int × Unit)) × List (ByteArray) × (List (Int × Int × Unit)) × Unit)) (d : Int × Int × ((List (Int × Int × ByteArray × Int × Unit)) × List ByteArray × (List (Int × Int × Unit)) × Unit) × (Int × Int × ByteArray × Int × Unit) × Unit) (kn : Int × Int × ((List (Int × Int × ByteArray × Int × Unit)) × List ByteArray × (List (Int × Int × Unit)) × Unit) × (Int × Int × ByteArray × Int × Unit) × Unit → Option R) (kx : Int × ((List (Int × Int × ByteArray × Int × Unit)) × List ByteArray × (List (Int × Int × Unit)) × Unit) × (Int × Int × ByteArray × Int × Unit) × Unit → Option R) : Option R :=
 let x86 := d.1;
 let x87 := d.2.1;
 let x88 := d.2.2.1;
 let x89 := d.2.2.2.1;
 ifB (pLt x87 x89.2.2.2.1) (
 bindO (rc x88 x86) fun y90 =>
 kn (y90.1, (pAdd .i64 x87 1), y90.2, x89, ())) (
 kx (x86, x88, x89, ()))
def zA2.st (N : Nat) (rc : ((List (Int × Int × ByteArray × Int × Unit)) × List (ByteArray) × (List (Int × Int × Unit)) × Unit) → (Int) → Option (Int × (List (Int × Int × ByteArray × Int × Unit)) × List (ByteArray) × (List (Int × Int × Unit)) × Unit)) (a0 : (List (Int × Int × ByteArray × Int × Unit)) × List (ByteArray) × (List (Int × Int × Unit)) × Unit) (a1 : Int) : Option (Int × (List (Int × Int × ByteArray × Int × Unit)) × List ByteArray × (List (Int × Int × Unit)) × Unit) :=
 bindO (idx a0.1 a1) fun y62 =>
 bindO (zAA N a0 1 0) fun y63 =>
 ifB (pEq y62.1 3) (
 bindO (rc y63.2 (pAdd .i64 a1 1)) fun y64 =>
 bindO (zAA N y64.2 12 0) fun y65 =>
 bindO (rc y65.2 y64.1) fun y66 =>
 ifB (pEq y62.2.2.2.1 3) (
 bindO (zAA N y66.2 11 0) fun y67 =>
 bindO (zAL N y67.2) fun y68 =>
 bindO (idx y67.2.2.2.1 y65.1) fun y69 =>
 bindO (idx y67.2.2.2.1 y65.1) fun y70 =>
 bindO (rc (y67.2.1, (y67.2.2.1, ((pSet y67.2.2.2.1 y65.1 (y70.1, (y68, y70.2.2))), y67.2.2.2.2))) y66.1) fun y71 =>
 bindO (zAL N y71.2) fun y72 =>
 bindO (idx y71.2.2.2.1 y67.1) fun y73 =>
 bindO (idx y71.2.2.2.1 y67.1) fun y74 =>
 some (y71.1, (y71.2.1, (y71.2.2.1, ((pSet y71.2.2.2.1 y67.1 (y74.1, (y72, y74.2.2))), y71.2.2.2.2))))) (
 bindO (zAL N y66.2) fun y75 =>
 bindO (idx y66.2.2.2.1 y65.1) fun y76 =>
 bindO (idx y66.2.2.2.1 y65.1) fun y77 =>
 some (y66.1, (y66.2.1, (y66.2.2.1, ((pSet y66.2.2.2.1 y65.1 (y77.1, (y75, y77.2.2))), y66.2.2.2.2)))))) (
 ifB (pEq y62.1 4) (
 bindO (zAL N y63.2) fun y78 =>
 bindO (rc y63.2 (pAdd .i64 a1 1)) fun y79 =>
 bindO (zAA N y79.2 12 0) fun y80 =>
 bindO (rc y80.2 y79.1) fun y81 =>
 bindO (zAA N y81.2 11 y78) fun y82 =>
 bindO (zAL N y82.2) fun y83 =>
 bindO (idx y82.2.2.2.1 y80.1) fun y84 =>
 bindO (idx y82.2.2.2.1 y80.1) fun y85 =>
 some (y81.1, (y82.2.1, (y82.2.2.1, ((pSet y82.2.2.2.1 y80.1 (y85.1, (y83, y85.2.2))), y82.2.2.2.2))))) (
 loopP (zA2.l25 N rc) N ((pAdd .i64 a1 1), 0, y63.2, y62, ()) (
 fun d =>
 let x91 := d.1;
 let x92 := d.2.1;
 let x93 := d.2.2.1;
 bindO (A := Int × ((List (Int × Int × ByteArray × Int × Unit)) × List ByteArray × (List (Int × Int × Unit)) × Unit) × Unit) (
 ifB (pEq x93.1 2) (
 bindO (zA4 N x92 x93.2.2.1) fun y94 =>
 bindO (zAA N x92 4 y94) fun y95 =>
 some (x91, y95.2, ())) (
 ifB (pEq x93.1 12) (
 bindO (zA4 N x92 x93.2.2.1) fun y96 =>
 bindO (zAA N x92 3 y96) fun y97 =>
 some (x91, y97.2, ())) (
 ifB (pEq x93.1 11) (
 bindO (zAA N x92 2 x93.2.1) fun y98 =>
 some (x91, y98.2, ())) (
 ifB (pEq x93.1 10) (
 bindO (zA9 N x93.2.2.1) fun y99 =>
 bindO (zAA N x92 18 y99) fun y100 =>
 some (x91, y100.2, ())) (
 ifB (pGe x93.1 18) (
 bindO (zAA N x92 10 x93.1) fun y101 =>
 some (x91, y101.2, ())) (
 bindO (zB1 N x93.1) fun y102 =>
 ifB (pGt y102 0) (
 bindO (zB1 N x93.1) fun y103 =>
 bindO (zAA N x92 y103 0) fun y104 =>
 some (x91, y104.2, ())) (
 some (x91, x92, ())))))))) (
 fun d =>
 let x105 := d.1;
 let x106 := d.2.1;
 some (x105, x106)))))
def zA2 (N : Nat) : ((List (Int × Int × ByteArray × Int × Unit)) × List (ByteArray) × (List (Int × Int × Unit)) × Unit) → (Int) → Option (Int × (List (Int × Int × ByteArray × Int × Unit)) × List (ByteArray) × (List (Int × Int × Unit)) × Unit) := Nat.rec (motive := fun _ => ((List (Int × Int × ByteArray × Int × Unit)) × List (ByteArray) × (List (Int × Int × Unit)) × Unit) → (Int) → Option (Int × (List (Int × Int × ByteArray × Int × Unit)) × List (ByteArray) × (List (Int × Int × Unit)) × Unit)) (fun _ _ => none) (fun n rc => zA2.st n rc) N
def zB5 (N : Nat) (a0 : List (Int × Int × ByteArray × Int × Unit)) : Option (List (Int × Int × Unit)) :=
 bindO (
 ifB (pGt (pLen a0) 400) (
 some true) (
 bindO (zAV N a0) fun y5 =>
 some (pNot y5))) fun y4 =>
 ifB y4 (
 some []) (
 bindO (zA5 N a0) fun y6 =>
 bindO (zA2 N (a0, (y6, ([], ()))) 0) fun y7 =>
 some y7.2.2.2.1)
def zB8 (N : Nat) : Option (List ByteArray) :=
 some [(ByteArray.mk #[108, 101, 102, 116]), (ByteArray.mk #[114, 105, 103, 104, 116]), (ByteArray.mk #[119, 111, 114, 100, 45, 98, 97, 99, 107]), (ByteArray.mk #[119, 111, 114, 100, 45, 110, 101, 120, 116]), (ByteArray.mk #[108, 105, 110, 101, 45, 115, 116, 97, 114, 116]), (ByteArray.mk #[108, 105, 110, 101, 45, 101, 110, 100]), (ByteArray.mk #[117, 112]), (ByteArray.mk #[100, 111, 119, 110]), (ByteArray.mk #[102, 105, 114, 115, 116]), (ByteArray.mk #[108, 97, 115, 116])]
def zBF (N : Nat) (a0 : Int × Int × ByteArray × Int × Unit) (a1 : Int) : Option (Int) :=
 ifB (pLt (pSub .i64 a1 (pSize a0.2.2.1)) 0) (
 some (-1)) (
 some (pSub .i64 a1 (pSize a0.2.2.1)))
def zAK.l5 {R : Type} (N : Nat) (d : (List (Int × Int × ByteArray × Int × Unit)) × Int × Int × Unit) (kn : (List (Int × Int × ByteArray × Int × Unit)) × Int × Int × Unit → Option R) (kx : (Int × Unit) ⊕ (Int × Unit) → Option R) : Option R :=
 let x14 := d.1;
 let x15 := d.2.1;
 let x16 := d.2.2.1;
 ifB (pLt x16 (pLen x14)) (
 bindO (idx x14 x16) fun y17 =>
 bindO (zBF N y17 x15) fun y18 =>
 ifB (pLt y18 0) (
 kx (.inr ((-1), ()))) (
 kn (x14, y18, (pAdd .i64 x16 1), ()))) (
 kx (.inl (x15, ())))
def zAK (N : Nat) (a0 : List (Int × Int × ByteArray × Int × Unit)) (a1 : Int) : Option (Int) :=
 ifB (pLt (pSub .i64 a1 (pLen a0)) 0) (
 some (-1)) (
 loopP (zAK.l5 N) N (a0, (pSub .i64 a1 (pLen a0)), 0, ()) (
 onSum (fun d =>
 let x19 := d.1;
 some x19) (
 fun d =>
 let x20 := d.1;
 some x20)))
def zBE (N : Nat) (a0 : Int × Int × ByteArray × Int × Unit) : Option (Int × Int × ByteArray × Int × Unit) :=
 some (a0.1, (a0.2.1, (a0.2.2.1, (a0.2.2.2.1, ()))))
def zAE.l3 {R : Type} (N : Nat) (d : (List (Int × Int × ByteArray × Int × Unit)) × Int × (List (Int × Int × ByteArray × Int × Unit)) × Unit) (kn : (List (Int × Int × ByteArray × Int × Unit)) × Int × (List (Int × Int × ByteArray × Int × Unit)) × Unit → Option R) (kx : (List (Int × Int × ByteArray × Int × Unit)) × Unit → Option R) : Option R :=
 let x19 := d.1;
 let x20 := d.2.1;
 let x21 := d.2.2.1;
 ifB (pLt x20 (pLen x19)) (
 bindO (idx x19 x20) fun y22 =>
 bindO (zBE N y22) fun y23 =>
 bindO (idx x21 x20) fun y24 =>
 bindO (idx x21 x20) fun y25 =>
 kn (x19, (pAdd .i64 x20 1), (pSet x21 x20 y23), ())) (
 kx (x21, ()))
def zAE (N : Nat) (a0 : List (Int × Int × ByteArray × Int × Unit)) : Option (List (Int × Int × ByteArray × Int × Unit)) :=
 ifB (pEq (pLen a0) (pLen a0)) (
 ifB (pLe 0 (pLen a0)) (
 ifB (pLe (pLen a0) 68719476736) (
 loopP (zAE.l3 N) N (a0, 0, (pRepl (pLen a0) (0, (0, ((ByteArray.mk #[]), (0, ()))))), ()) (
 fun d =>
 let x26 := d.1;
 some x26)) (
 none)) (
 none)) (
 none)
end Go.AE.F
end
