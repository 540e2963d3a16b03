/- Functions as they are printed out of the program: plain Lean, nothing is claimed here. -/
import Derived.Test.YtcgbobehdjgjpaaGreatLViBackF5
noncomputable section
namespace Go.AE.F
open Go.AE
def zAG.l2 {R : Type} (N : Nat) (d : Int × ByteArray × (List Int × Int × Int × Int × Unit) × Unit) (kn : Int × ByteArray × (List Int × Int × Int × Int × Unit) × Unit → Option R) (kx : ByteArray × (List Int × Int × Int × Int × Unit) × Unit → Option R) : Option R :=
 let x50 := d.1;
 let x51 := d.2.1;
 let x52 := d.2.2.1;
 ifB (pGt x50 0) (
 bindO (A := Int × ByteArray × (List Int × Int × Int × Int × Unit) × Unit) (
 bindO (zAQ N x52 5) fun y53 =>
 ifB y53.1 (
 bindO (zAF N y53.2 12) fun y54 =>
 bindO (zB4 N (pAdd .i64 1 y54.1)) fun y55 =>
 ifB (pFitS x51 y55) (
 bindO (zB1 N y54.2 [(ByteArray.mk #[104]), (ByteArray.mk #[108]), (ByteArray.mk #[98]), (ByteArray.mk #[119]), (ByteArray.mk #[48]), (ByteArray.mk #[36]), (ByteArray.mk #[107]), (ByteArray.mk #[106]), (ByteArray.mk #[103]), (ByteArray.mk #[71]), (ByteArray.mk #[100, 119]), (ByteArray.mk #[100, 36]), (ByteArray.mk #[100, 100]), (ByteArray.mk #[121, 121]), (ByteArray.mk #[121, 119]), (ByteArray.mk #[100, 98]), (ByteArray.mk #[120]), (ByteArray.mk #[112]), (ByteArray.mk #[80]), (ByteArray.mk #[126]), (ByteArray.mk #[100, 108])]) fun y56 =>
 ifB (pFitS (pCat x51 y55) y56.1) (
 bindO (zAQ N y56.2 30) fun y57 =>
 ifB y57.1 (
 bindO (zB1 N y57.2 [(ByteArray.mk #[105]), (ByteArray.mk #[99, 119]), (ByteArray.mk #[65]), (ByteArray.mk #[99, 99])]) fun y58 =>
 ifB (pFitS (pCat (pCat x51 y55) y56.1) y58.1) (
 bindO (zAQ N y58.2 30) fun y59 =>
 ifB y59.1 (
 bindO (zB1 N y59.2 [(ByteArray.mk #[113]), (ByteArray.mk #[100, 122]), (ByteArray.mk #[100, 107]), (ByteArray.mk #[49, 48, 48, 48, 120]), (ByteArray.mk #[100, 121]), (ByteArray.mk #[0])]) fun y60 =>
 ifB (pFitS (pCat (pCat (pCat x51 y55) y56.1) y58.1) y60.1) (
 some (x50, (pCat (pCat (pCat (pCat x51 y55) y56.1) y58.1) y60.1), y60.2, ())) (
 none)) (
 some (x50, (pCat (pCat (pCat x51 y55) y56.1) y58.1), y59.2, ()))) (
 none)) (
 bindO (zAQ N y57.2 30) fun y61 =>
 ifB y61.1 (
 bindO (zB1 N y61.2 [(ByteArray.mk #[113]), (ByteArray.mk #[100, 122]), (ByteArray.mk #[100, 107]), (ByteArray.mk #[49, 48, 48, 48, 120]), (ByteArray.mk #[100, 121]), (ByteArray.mk #[0])]) fun y62 =>
 ifB (pFitS (pCat (pCat x51 y55) y56.1) y62.1) (
 some (x50, (pCat (pCat (pCat x51 y55) y56.1) y62.1), y62.2, ())) (
 none)) (
 some (x50, (pCat (pCat x51 y55) y56.1), y61.2, ())))) (
 none)) (
 none)) (
 bindO (zB1 N y53.2 [(ByteArray.mk #[104]), (ByteArray.mk #[108]), (ByteArray.mk #[98]), (ByteArray.mk #[119]), (ByteArray.mk #[48]), (ByteArray.mk #[36]), (ByteArray.mk #[107]), (ByteArray.mk #[106]), (ByteArray.mk #[103]), (ByteArray.mk #[71]), (ByteArray.mk #[100, 119]), (ByteArray.mk #[100, 36]), (ByteArray.mk #[100, 100]), (ByteArray.mk #[121, 121]), (ByteArray.mk #[121, 119]), (ByteArray.mk #[100, 98]), (ByteArray.mk #[120]), (ByteArray.mk #[112]), (ByteArray.mk #[80]), (ByteArray.mk #[126]), (ByteArray.mk #[100, 108])]) fun y63 =>
 ifB (pFitS x51 y63.1) (
 bindO (zAQ N y63.2 30) fun y64 =>
 ifB y64.1 (
 bindO (zB1 N y64.2 [(ByteArray.mk #[105]), (ByteArray.mk #[99, 119]), (ByteArray.mk #[65]), (ByteArray.mk #[99, 99])]) fun y65 =>
 ifB (pFitS (pCat x51 y63.1) y65.1) (
 bindO (zAQ N y65.2 30) fun y66 =>
 ifB y66.1 (
 bindO (zB1 N y66.2 [(ByteArray.mk #[113]), (ByteArray.mk #[100, 122]), (ByteArray.mk #[100, 107]), (ByteArray.mk #[49, 48, 48, 48, 120]), (ByteArray.mk #[100, 121]), (ByteArray.mk #[0])]) fun y67 =>
 ifB (pFitS (pCat (pCat x51 y63.1) y65.1) y67.1) (
 some (x50, (pCat (pCat (pCat x51 y63.1) y65.1) y67.1), y67.2, ())) (
 none)) (
 some (x50, (pCat (pCat x51 y63.1) y65.1), y66.2, ()))) (
 none)) (
 bindO (zAQ N y64.2 30) fun y68 =>
 ifB y68.1 (
 bindO (zB1 N y68.2 [(ByteArray.mk #[113]), (ByteArray.mk #[100, 122]), (ByteArray.mk #[100, 107]), (ByteArray.mk #[49, 48, 48, 48, 120]), (ByteArray.mk #[100, 121]), (ByteArray.mk #[0])]) fun y69 =>
 ifB (pFitS (pCat x51 y63.1) y69.1) (
 some (x50, (pCat (pCat x51 y63.1) y69.1), y69.2, ())) (
 none)) (
 some (x50, (pCat x51 y63.1), y68.2, ())))) (
 none))) (
 fun d =>
 let x70 := d.1;
 let x71 := d.2.1;
 let x72 := d.2.2.1;
 kn ((pSub .i64 x70 1), x71, x72, ()))) (
 kx (x51, x52, ()))
def zAG (N : Nat) (a0 : List (Int) × Int × Int × Int × Unit) (a1 : Int) : Option (ByteArray × List Int × Int × Int × Int × Unit) :=
 loopP (zAG.l2 N) N (a1, (ByteArray.mk #[]), a0, ()) (
 fun d =>
 let x73 := d.1;
 let x74 := d.2.1;
 some (x73, x74))
def zCH (N : Nat) (a0 : List (Int) × Int × Int × Unit) (a1 : List (List (Int)) × Int × Unit) (a2 : Int) (a3 : Int) (a4 : Bool) : Option ((List Int × Int × Int × Unit) × List (List Int) × Int × Unit) :=
 ifB (pLe 0 a2) (
 ifB (pLe a2 a3) (
 ifB (pLe a3 (pLen a0.1)) (
 bindO (zCD N a1 (sub a0.1 a2 a3)) fun y3 =>
 bindO (zBW N a0) fun y4 =>
 ifB a4 (
 bindO (zBZ N a0 a2 a3) fun y5 =>
 some ((y5.1.1, (a2, y5.1.2.2)), y3)) (
 some ((y4.1, (a2, y4.2.2)), y3))) (
 none)) (
 none)) (
 none)
def zBC (N : Nat) (a0 : List (Int) × Int × Int × Unit) (a1 : List (List (Int)) × Int × Unit) (a2 : Int) (a3 : Int) (a4 : Int) : Option ((List Int × Int × Int × Unit) × (List (List Int) × Int × Unit) × Bool × Int × Int × Unit) :=
 bindO (zAY N (pConv .i64 a3)) fun y19 =>
 bindO (A := (Int × Int × Int × (List Int × Int × Int × Unit) × (List (List Int) × Int × Unit) × ((List Int × Int × Int × Unit) × (List (List Int) × Int × Unit) × Bool × Int × Int × Unit) × Unit) ⊕ (((List Int × Int × Int × Unit) × (List (List Int) × Int × Unit) × Bool × Int × Int × Unit) × Unit)) (
 ifB (pEq a3 a2) (
 bindO (zAK N a0 a0.2.1) fun y20 =>
 bindO (zAV N a0 a0.2.1) fun y21 =>
 some (.inl (a2, y20, y21, a0, a1, (([], (0, (0, ()))), (([], (0, ())), (false, (0, (0, ()))))), ()))) (
 bindO (
 ifB (pGe y19 1) (
 some (pLe y19 6)) (
 some false)) fun y22 =>
 ifB y22 (
 bindO (zB2 N a0 y19 a4 0) fun y23 =>
 some (.inl (a2, a0.2.1, y23, a0, a1, (([], (0, (0, ()))), (([], (0, ())), (false, (0, (0, ()))))), ()))) (
 some (.inr ((([], (0, (0, ()))), (([], (0, ())), (false, (0, (3, ()))))), ()))))) (
 onSum (fun d =>
 let x24 := d.1;
 let x25 := d.2.1;
 let x26 := d.2.2.1;
 let x27 := d.2.2.2.1;
 let x28 := d.2.2.2.2.1;
 let x29 := d.2.2.2.2.2.1;
 bindO (zBL N x25 x26) fun y30 =>
 bindO (zBR N x25 x26) fun y31 =>
 bindO (zCH N x27 x28 y30 y31 (pNe x24 121)) fun y32 =>
 some (y32.1, (y32.2, ((pEq x24 99), (0, (0, ())))))) (
 fun d =>
 let x33 := d.1;
 some x33))
def zB3.l4 {R : Type} (N : Nat) (d : Int × (List (List Int) × Int × Unit) × ((List Int × Int × Int × Unit) × (List (List Int) × Int × Unit) × Bool × Int × Int × Unit) × (List Int × Int × Int × Unit) × Unit) (kn : Int × (List (List Int) × Int × Unit) × ((List Int × Int × Int × Unit) × (List (List Int) × Int × Unit) × Bool × Int × Int × Unit) × (List Int × Int × Int × Unit) × Unit → Option R) (kx : ((List (List Int) × Int × Unit) × ((List Int × Int × Int × Unit) × (List (List Int) × Int × Unit) × Bool × Int × Int × Unit) × (List Int × Int × Int × Unit) × Unit) ⊕ (((List Int × Int × Int × Unit) × (List (List Int) × Int × Unit) × Bool × Int × Int × Unit) × Unit) → Option R) : Option R :=
 let x33 := d.1;
 let x34 := d.2.1;
 let x35 := d.2.2.1;
 let x36 := d.2.2.2.1;
 ifB (pGt x33 0) (
 bindO (zC9 N x34 x36) fun y37 =>
 ifB (pNe y37.2.2.2.1 0) (
 kx (.inr ((([], (0, (0, ()))), (([], (0, ())), (false, (0, (y37.2.2.2.1, ()))))), ()))) (
 kn ((pSub .i64 x33 1), x34, x35, y37.1, ()))) (
 kx (.inl (x34, x35, x36, ())))
def zB3 (N : Nat) (a0 : List (Int) × Int × Int × Unit) (a1 : List (List (Int)) × Int × Unit) (a2 : Bool) (a3 : Int) : Option ((List Int × Int × Int × Unit) × (List (List Int) × Int × Unit) × Bool × Int × Int × Unit) :=
 bindO (zBW N a0) fun y31 =>
 bindO (
 ifB a2 (
 some (pLt y31.2.1 (pLen y31.1))) (
 some false)) fun y32 =>
 ifB y32 (
 loopP (zB3.l4 N) N (a3, a1, (([], (0, (0, ()))), (([], (0, ())), (false, (0, (0, ()))))), (y31.1, ((pAdd .i64 y31.2.1 1), y31.2.2)), ()) (
 onSum (fun d =>
 let x38 := d.1;
 let x39 := d.2.1;
 let x40 := d.2.2.1;
 bindO (zBN N x38) fun y41 =>
 some (x40, (y41, (false, (0, (0, ())))))) (
 fun d =>
 let x42 := d.1;
 some x42))) (
 loopP (zB3.l4 N) N (a3, a1, (([], (0, (0, ()))), (([], (0, ())), (false, (0, (0, ()))))), y31, ()) (
 onSum (fun d =>
 let x48 := d.1;
 let x49 := d.2.1;
 let x50 := d.2.2.1;
 bindO (zBN N x48) fun y51 =>
 some (x50, (y51, (false, (0, (0, ())))))) (
 fun d =>
 let x52 := d.1;
 some x52)))
def zAP.l3 {R : Type} (N : Nat) (d : List Int × Int × List Int × Unit) (kn : List Int × Int × List Int × Unit → Option R) (kx : List Int × Unit → Option R) : Option R :=
 let x19 := d.1;
 let x20 := d.2.1;
 let x21 := d.2.2.1;
 ifB (pLt x20 (pLen x19)) (
 bindO (A := List Int × Int × List Int × Unit) (
 bindO (idx x19 x20) fun y22 =>
 bindO (
 ifB (pGe y22 97) (
 some (pLe y22 122)) (
 some false)) fun y23 =>
 ifB y23 (
 ifB (pFit x21 [(pSub .i64 y22 32)]) (
 some (x19, x20, (pApp x21 [(pSub .i64 y22 32)]), ())) (
 none)) (
 bindO (
 ifB (pGe y22 65) (
 some (pLe y22 90)) (
 some false)) fun y24 =>
 ifB y24 (
 ifB (pFit x21 [(pAdd .i64 y22 32)]) (
 some (x19, x20, (pApp x21 [(pAdd .i64 y22 32)]), ())) (
 none)) (
 ifB (pFit x21 [y22]) (
 some (x19, x20, (pApp x21 [y22]), ())) (
 none)))) (
 fun d =>
 let x25 := d.1;
 let x26 := d.2.1;
 let x27 := d.2.2.1;
 kn (x25, (pAdd .i64 x26 1), x27, ()))) (
 kx (x21, ()))
def zAP (N : Nat) (a0 : List (Int)) : Option (List Int) :=
 loopP (zAP.l3 N) N (a0, 0, [], ()) (
 fun d =>
 let x28 := d.1;
 some x28)
def zB8.l3 {R : Type} (N : Nat) (d : ByteArray × Int × Int × (List Int × Int × Int × Unit) × (List (List Int) × Int × Unit) × ((List Int × Int × Int × Unit) × (List (List Int) × Int × Unit) × Bool × Int × Int × Unit) × Unit) (kn : ByteArray × Int × Int × (List Int × Int × Int × Unit) × (List (List Int) × Int × Unit) × ((List Int × Int × Int × Unit) × (List (List Int) × Int × Unit) × Bool × Int × Int × Unit) × Unit → Option R) (kx : ByteArray × Int × Int × (List Int × Int × Int × Unit) × (List (List Int) × Int × Unit) × ((List Int × Int × Int × Unit) × (List (List Int) × Int × Unit) × Bool × Int × Int × Unit) × Unit → Option R) : Option R :=
 let x71 := d.1;
 let x72 := d.2.1;
 let x73 := d.2.2.1;
 let x74 := d.2.2.2.1;
 let x75 := d.2.2.2.2.1;
 let x76 := d.2.2.2.2.2.1;
 bindO (
 ifB (pLt x72 (pSize x71)) (
 some (pLt x72 3)) (
 some false)) fun y77 =>
 bindO (
 ifB y77 (
 bindO (bidx x71 x72) fun y79 =>
 some (pGe y79 48)) (
 some false)) fun y78 =>
 bindO (
 ifB y78 (
 bindO (bidx x71 x72) fun y81 =>
 some (pLe y81 57)) (
 some false)) fun y80 =>
 bindO (
 ifB y80 (
 bindO (
 ifB (pEq x72 0) (
 bindO (bidx x71 x72) fun y84 =>
 some (pEq y84 48)) (
 some false)) fun y83 =>
 some (pNot y83)) (
 some false)) fun y82 =>
 ifB y82 (
 bindO (bidx x71 x72) fun y85 =>
 kn (x71, (pAdd .i64 x72 1), (pAdd .i64 (pMul .i64 10 x73) (pConv .i64 (pSub .u8 y85 48))), x74, x75, x76, ())) (
 kx (x71, x72, x73, x74, x75, x76, ()))
end Go.AE.F
end
