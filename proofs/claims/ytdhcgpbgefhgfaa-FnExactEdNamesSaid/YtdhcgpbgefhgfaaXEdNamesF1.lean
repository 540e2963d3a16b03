/- Functions as they are printed out of the program: plain Lean, nothing is claimed here. -/
import Derived.Test.YtdhcgpbgefhgfaaA5
noncomputable section
namespace Go.AE.F
open Go.AE
def laws_markText.l4 {R : Type} (N : Nat) (d : Int × ByteArray × Unit) (kn : Int × ByteArray × Unit → Option R) (kx : ByteArray × Unit → Option R) : Option R :=
 let x6 := d.1;
 let x7 := d.2.1;
 ifB (pGt x6 0) (
 ifB (pEq 10 0) (
 none) (
 ifB (pFitS (bytesOf [(pConv .u8 (pAdd .i64 48 (pRem x6 10)))]) x7) (
 ifB (pEq 10 0) (
 none) (
 kn ((pQuo .i64 x6 10), (pCat (bytesOf [(pConv .u8 (pAdd .i64 48 (pRem x6 10)))]) x7), ()))) (
 none))) (
 kx (x7, ()))
def laws_markText (N : Nat) (a0 : Int) : Option (ByteArray) :=
 ifB (pLe a0 0) (
 some (ByteArray.mk #[109, 48])) (
 loopP (laws_markText.l4 N) N (a0, (ByteArray.mk #[]), ()) (
 fun d =>
 let x8 := d.1;
 ifB (pFitS (ByteArray.mk #[109]) x8) (
 some (pCat (ByteArray.mk #[109]) x8)) (
 none)))
def spec_EdNames (N : Nat) : Option (List ByteArray) :=
 some [(ByteArray.mk #[97, 99, 99, 101, 112, 116]), (ByteArray.mk #[98, 101, 108, 108]), (ByteArray.mk #[99, 111, 109, 112, 108, 101, 116, 101]), (ByteArray.mk #[99, 111, 112, 121, 45, 114, 101, 103, 105, 111, 110]), (ByteArray.mk #[100, 101, 108, 101, 116, 101]), (ByteArray.mk #[100, 101, 108, 101, 116, 101, 45, 98, 97, 99, 107]), (ByteArray.mk #[100, 111, 119, 110]), (ByteArray.mk #[100, 111, 119, 110, 45, 104, 105, 115, 116, 111, 114, 121]), (ByteArray.mk #[102, 105, 114, 115, 116]), (ByteArray.mk #[107, 105, 108, 108, 45, 98, 97, 99, 107]), (ByteArray.mk #[107, 105, 108, 108, 45, 108, 105, 110, 101]), (ByteArray.mk #[107, 105, 108, 108, 45, 114, 101, 103, 105, 111, 110]), (ByteArray.mk #[107, 105, 108, 108, 45, 119, 111, 114, 100]), (ByteArray.mk #[108, 97, 115, 116]), (ByteArray.mk #[108, 101, 102, 116]), (ByteArray.mk #[108, 105, 110, 101, 45, 101, 110, 100]), (ByteArray.mk #[108, 105, 110, 101, 45, 115, 116, 97, 114, 116]), (ByteArray.mk #[110, 101, 119, 108, 105, 110, 101]), (ByteArray.mk #[114, 101, 100, 111]), (ByteArray.mk #[114, 105, 103, 104, 116]), (ByteArray.mk #[115, 101, 116, 45, 109, 97, 114, 107]), (ByteArray.mk #[117, 110, 100, 111]), (ByteArray.mk #[117, 112]), (ByteArray.mk #[117, 112, 45, 104, 105, 115, 116, 111, 114, 121]), (ByteArray.mk #[118, 105, 45, 99, 111, 109, 109, 97, 110, 100]), (ByteArray.mk #[118, 105, 45, 105, 110, 115, 101, 114, 116]), (ByteArray.mk #[119, 111, 114, 100, 45, 98, 97, 99, 107]), (ByteArray.mk #[119, 111, 114, 100, 45, 110, 101, 120, 116]), (ByteArray.mk #[121, 97, 110, 107]), (ByteArray.mk #[121, 97, 110, 107, 45, 112, 111, 112])]
def impl_moves (N : Nat) : Option (List ByteArray) :=
 some [(ByteArray.mk #[108, 101, 102, 116]), (ByteArray.mk #[114, 105, 103, 104, 116]), (ByteArray.mk #[119, 111, 114, 100, 45, 98, 97, 99, 107]), (ByteArray.mk #[119, 111, 114, 100, 45, 110, 101, 120, 116]), (ByteArray.mk #[108, 105, 110, 101, 45, 115, 116, 97, 114, 116]), (ByteArray.mk #[108, 105, 110, 101, 45, 101, 110, 100]), (ByteArray.mk #[117, 112]), (ByteArray.mk #[100, 111, 119, 110]), (ByteArray.mk #[102, 105, 114, 115, 116]), (ByteArray.mk #[108, 97, 115, 116])]
def math_bits_Len32 (N : Nat) (a0 : Int) : Option (Int) :=
 ifB (pGe a0 65536) (
 ifB (pLt 16 0) (
 none) (
 ifB (pGe (pShr .u32 a0 16) 256) (
 ifB (pLt 8 0) (
 none) (
 bindO (bidx (ByteArray.mk (List.toArray (List.append (List.append [0, 1, 2, 2, 3, 3, 3, 3, 4, 4, 4, 4, 4, 4, 4, 4, 5, 5, 5, 5, 5, 5, 5, 5, 5, 5, 5, 5, 5, 5, 5, 5, 6, 6, 6, 6, 6, 6, 6, 6, 6, 6, 6, 6, 6, 6, 6, 6, 6, 6, 6, 6, 6, 6, 6, 6, 6, 6, 6, 6, 6, 6, 6, 6] [7, 7, 7, 7, 7, 7, 7, 7, 7, 7, 7, 7, 7, 7, 7, 7, 7, 7, 7, 7, 7, 7, 7, 7, 7, 7, 7, 7, 7, 7, 7, 7, 7, 7, 7, 7, 7, 7, 7, 7, 7, 7, 7, 7, 7, 7, 7, 7, 7, 7, 7, 7, 7, 7, 7, 7, 7, 7, 7, 7, 7, 7, 7, 7]) (List.append [8, 8, 8, 8, 8, 8, 8, 8, 8, 8, 8, 8, 8, 8, 8, 8, 8, 8, 8, 8, 8, 8, 8, 8, 8, 8, 8, 8, 8, 8, 8, 8, 8, 8, 8, 8, 8, 8, 8, 8, 8, 8, 8, 8, 8, 8, 8, 8, 8, 8, 8, 8, 8, 8, 8, 8, 8, 8, 8, 8, 8, 8, 8, 8] [8, 8, 8, 8, 8, 8, 8, 8, 8, 8, 8, 8, 8, 8, 8, 8, 8, 8, 8, 8, 8, 8, 8, 8, 8, 8, 8, 8, 8, 8, 8, 8, 8, 8, 8, 8, 8, 8, 8, 8, 8, 8, 8, 8, 8, 8, 8, 8, 8, 8, 8, 8, 8, 8, 8, 8, 8, 8, 8, 8, 8, 8, 8, 8])))) (pConv .u8 (pShr .u32 (pShr .u32 a0 16) 8))) fun y4 =>
 some (pAdd .i64 (pAdd .i64 16 8) (pConv .i64 y4)))) (
 bindO (bidx (ByteArray.mk (List.toArray (List.append (List.append [0, 1, 2, 2, 3, 3, 3, 3, 4, 4, 4, 4, 4, 4, 4, 4, 5, 5, 5, 5, 5, 5, 5, 5, 5, 5, 5, 5, 5, 5, 5, 5, 6, 6, 6, 6, 6, 6, 6, 6, 6, 6, 6, 6, 6, 6, 6, 6, 6, 6, 6, 6, 6, 6, 6, 6, 6, 6, 6, 6, 6, 6, 6, 6] [7, 7, 7, 7, 7, 7, 7, 7, 7, 7, 7, 7, 7, 7, 7, 7, 7, 7, 7, 7, 7, 7, 7, 7, 7, 7, 7, 7, 7, 7, 7, 7, 7, 7, 7, 7, 7, 7, 7, 7, 7, 7, 7, 7, 7, 7, 7, 7, 7, 7, 7, 7, 7, 7, 7, 7, 7, 7, 7, 7, 7, 7, 7, 7]) (List.append [8, 8, 8, 8, 8, 8, 8, 8, 8, 8, 8, 8, 8, 8, 8, 8, 8, 8, 8, 8, 8, 8, 8, 8, 8, 8, 8, 8, 8, 8, 8, 8, 8, 8, 8, 8, 8, 8, 8, 8, 8, 8, 8, 8, 8, 8, 8, 8, 8, 8, 8, 8, 8, 8, 8, 8, 8, 8, 8, 8, 8, 8, 8, 8] [8, 8, 8, 8, 8, 8, 8, 8, 8, 8, 8, 8, 8, 8, 8, 8, 8, 8, 8, 8, 8, 8, 8, 8, 8, 8, 8, 8, 8, 8, 8, 8, 8, 8, 8, 8, 8, 8, 8, 8, 8, 8, 8, 8, 8, 8, 8, 8, 8, 8, 8, 8, 8, 8, 8, 8, 8, 8, 8, 8, 8, 8, 8, 8])))) (pConv .u8 (pShr .u32 a0 16))) fun y5 =>
 some (pAdd .i64 16 (pConv .i64 y5))))) (
 ifB (pGe a0 256) (
 ifB (pLt 8 0) (
 none) (
 bindO (bidx (ByteArray.mk (List.toArray (List.append (List.append [0, 1, 2, 2, 3, 3, 3, 3, 4, 4, 4, 4, 4, 4, 4, 4, 5, 5, 5, 5, 5, 5, 5, 5, 5, 5, 5, 5, 5, 5, 5, 5, 6, 6, 6, 6, 6, 6, 6, 6, 6, 6, 6, 6, 6, 6, 6, 6, 6, 6, 6, 6, 6, 6, 6, 6, 6, 6, 6, 6, 6, 6, 6, 6] [7, 7, 7, 7, 7, 7, 7, 7, 7, 7, 7, 7, 7, 7, 7, 7, 7, 7, 7, 7, 7, 7, 7, 7, 7, 7, 7, 7, 7, 7, 7, 7, 7, 7, 7, 7, 7, 7, 7, 7, 7, 7, 7, 7, 7, 7, 7, 7, 7, 7, 7, 7, 7, 7, 7, 7, 7, 7, 7, 7, 7, 7, 7, 7]) (List.append [8, 8, 8, 8, 8, 8, 8, 8, 8, 8, 8, 8, 8, 8, 8, 8, 8, 8, 8, 8, 8, 8, 8, 8, 8, 8, 8, 8, 8, 8, 8, 8, 8, 8, 8, 8, 8, 8, 8, 8, 8, 8, 8, 8, 8, 8, 8, 8, 8, 8, 8, 8, 8, 8, 8, 8, 8, 8, 8, 8, 8, 8, 8, 8] [8, 8, 8, 8, 8, 8, 8, 8, 8, 8, 8, 8, 8, 8, 8, 8, 8, 8, 8, 8, 8, 8, 8, 8, 8, 8, 8, 8, 8, 8, 8, 8, 8, 8, 8, 8, 8, 8, 8, 8, 8, 8, 8, 8, 8, 8, 8, 8, 8, 8, 8, 8, 8, 8, 8, 8, 8, 8, 8, 8, 8, 8, 8, 8])))) (pConv .u8 (pShr .u32 a0 8))) fun y6 =>
 some (pAdd .i64 (pAdd .i64 0 8) (pConv .i64 y6)))) (
 bindO (bidx (ByteArray.mk (List.toArray (List.append (List.append [0, 1, 2, 2, 3, 3, 3, 3, 4, 4, 4, 4, 4, 4, 4, 4, 5, 5, 5, 5, 5, 5, 5, 5, 5, 5, 5, 5, 5, 5, 5, 5, 6, 6, 6, 6, 6, 6, 6, 6, 6, 6, 6, 6, 6, 6, 6, 6, 6, 6, 6, 6, 6, 6, 6, 6, 6, 6, 6, 6, 6, 6, 6, 6] [7, 7, 7, 7, 7, 7, 7, 7, 7, 7, 7, 7, 7, 7, 7, 7, 7, 7, 7, 7, 7, 7, 7, 7, 7, 7, 7, 7, 7, 7, 7, 7, 7, 7, 7, 7, 7, 7, 7, 7, 7, 7, 7, 7, 7, 7, 7, 7, 7, 7, 7, 7, 7, 7, 7, 7, 7, 7, 7, 7, 7, 7, 7, 7]) (List.append [8, 8, 8, 8, 8, 8, 8, 8, 8, 8, 8, 8, 8, 8, 8, 8, 8, 8, 8, 8, 8, 8, 8, 8, 8, 8, 8, 8, 8, 8, 8, 8, 8, 8, 8, 8, 8, 8, 8, 8, 8, 8, 8, 8, 8, 8, 8, 8, 8, 8, 8, 8, 8, 8, 8, 8, 8, 8, 8, 8, 8, 8, 8, 8] [8, 8, 8, 8, 8, 8, 8, 8, 8, 8, 8, 8, 8, 8, 8, 8, 8, 8, 8, 8, 8, 8, 8, 8, 8, 8, 8, 8, 8, 8, 8, 8, 8, 8, 8, 8, 8, 8, 8, 8, 8, 8, 8, 8, 8, 8, 8, 8, 8, 8, 8, 8, 8, 8, 8, 8, 8, 8, 8, 8, 8, 8, 8, 8])))) (pConv .u8 a0)) fun y7 =>
 some (pAdd .i64 0 (pConv .i64 y7))))
def math_bits_Len64 (N : Nat) (a0 : Int) : Option (Int) :=
 ifB (pGe a0 4294967296) (
 ifB (pLt 32 0) (
 none) (
 ifB (pGe (pShr .u64 a0 32) 65536) (
 ifB (pLt 16 0) (
 none) (
 ifB (pGe (pShr .u64 (pShr .u64 a0 32) 16) 256) (
 ifB (pLt 8 0) (
 none) (
 bindO (bidx (ByteArray.mk (List.toArray (List.append (List.append [0, 1, 2, 2, 3, 3, 3, 3, 4, 4, 4, 4, 4, 4, 4, 4, 5, 5, 5, 5, 5, 5, 5, 5, 5, 5, 5, 5, 5, 5, 5, 5, 6, 6, 6, 6, 6, 6, 6, 6, 6, 6, 6, 6, 6, 6, 6, 6, 6, 6, 6, 6, 6, 6, 6, 6, 6, 6, 6, 6, 6, 6, 6, 6] [7, 7, 7, 7, 7, 7, 7, 7, 7, 7, 7, 7, 7, 7, 7, 7, 7, 7, 7, 7, 7, 7, 7, 7, 7, 7, 7, 7, 7, 7, 7, 7, 7, 7, 7, 7, 7, 7, 7, 7, 7, 7, 7, 7, 7, 7, 7, 7, 7, 7, 7, 7, 7, 7, 7, 7, 7, 7, 7, 7, 7, 7, 7, 7]) (List.append [8, 8, 8, 8, 8, 8, 8, 8, 8, 8, 8, 8, 8, 8, 8, 8, 8, 8, 8, 8, 8, 8, 8, 8, 8, 8, 8, 8, 8, 8, 8, 8, 8, 8, 8, 8, 8, 8, 8, 8, 8, 8, 8, 8, 8, 8, 8, 8, 8, 8, 8, 8, 8, 8, 8, 8, 8, 8, 8, 8, 8, 8, 8, 8] [8, 8, 8, 8, 8, 8, 8, 8, 8, 8, 8, 8, 8, 8, 8, 8, 8, 8, 8, 8, 8, 8, 8, 8, 8, 8, 8, 8, 8, 8, 8, 8, 8, 8, 8, 8, 8, 8, 8, 8, 8, 8, 8, 8, 8, 8, 8, 8, 8, 8, 8, 8, 8, 8, 8, 8, 8, 8, 8, 8, 8, 8, 8, 8])))) (pConv .u8 (pShr .u64 (pShr .u64 (pShr .u64 a0 32) 16) 8))) fun y8 =>
 some (pAdd .i64 (pAdd .i64 (pAdd .i64 32 16) 8) (pConv .i64 y8)))) (
 bindO (bidx (ByteArray.mk (List.toArray (List.append (List.append [0, 1, 2, 2, 3, 3, 3, 3, 4, 4, 4, 4, 4, 4, 4, 4, 5, 5, 5, 5, 5, 5, 5, 5, 5, 5, 5, 5, 5, 5, 5, 5, 6, 6, 6, 6, 6, 6, 6, 6, 6, 6, 6, 6, 6, 6, 6, 6, 6, 6, 6, 6, 6, 6, 6, 6, 6, 6, 6, 6, 6, 6, 6, 6] [7, 7, 7, 7, 7, 7, 7, 7, 7, 7, 7, 7, 7, 7, 7, 7, 7, 7, 7, 7, 7, 7, 7, 7, 7, 7, 7, 7, 7, 7, 7, 7, 7, 7, 7, 7, 7, 7, 7, 7, 7, 7, 7, 7, 7, 7, 7, 7, 7, 7, 7, 7, 7, 7, 7, 7, 7, 7, 7, 7, 7, 7, 7, 7]) (List.append [8, 8, 8, 8, 8, 8, 8, 8, 8, 8, 8, 8, 8, 8, 8, 8, 8, 8, 8, 8, 8, 8, 8, 8, 8, 8, 8, 8, 8, 8, 8, 8, 8, 8, 8, 8, 8, 8, 8, 8, 8, 8, 8, 8, 8, 8, 8, 8, 8, 8, 8, 8, 8, 8, 8, 8, 8, 8, 8, 8, 8, 8, 8, 8] [8, 8, 8, 8, 8, 8, 8, 8, 8, 8, 8, 8, 8, 8, 8, 8, 8, 8, 8, 8, 8, 8, 8, 8, 8, 8, 8, 8, 8, 8, 8, 8, 8, 8, 8, 8, 8, 8, 8, 8, 8, 8, 8, 8, 8, 8, 8, 8, 8, 8, 8, 8, 8, 8, 8, 8, 8, 8, 8, 8, 8, 8, 8, 8])))) (pConv .u8 (pShr .u64 (pShr .u64 a0 32) 16))) fun y9 =>
 some (pAdd .i64 (pAdd .i64 32 16) (pConv .i64 y9))))) (
 ifB (pGe (pShr .u64 a0 32) 256) (
 ifB (pLt 8 0) (
 none) (
 bindO (bidx (ByteArray.mk (List.toArray (List.append (List.append [0, 1, 2, 2, 3, 3, 3, 3, 4, 4, 4, 4, 4, 4, 4, 4, 5, 5, 5, 5, 5, 5, 5, 5, 5, 5, 5, 5, 5, 5, 5, 5, 6, 6, 6, 6, 6, 6, 6, 6, 6, 6, 6, 6, 6, 6, 6, 6, 6, 6, 6, 6, 6, 6, 6, 6, 6, 6, 6, 6, 6, 6, 6, 6] [7, 7, 7, 7, 7, 7, 7, 7, 7, 7, 7, 7, 7, 7, 7, 7, 7, 7, 7, 7, 7, 7, 7, 7, 7, 7, 7, 7, 7, 7, 7, 7, 7, 7, 7, 7, 7, 7, 7, 7, 7, 7, 7, 7, 7, 7, 7, 7, 7, 7, 7, 7, 7, 7, 7, 7, 7, 7, 7, 7, 7, 7, 7, 7]) (List.append [8, 8, 8, 8, 8, 8, 8, 8, 8, 8, 8, 8, 8, 8, 8, 8, 8, 8, 8, 8, 8, 8, 8, 8, 8, 8, 8, 8, 8, 8, 8, 8, 8, 8, 8, 8, 8, 8, 8, 8, 8, 8, 8, 8, 8, 8, 8, 8, 8, 8, 8, 8, 8, 8, 8, 8, 8, 8, 8, 8, 8, 8, 8, 8] [8, 8, 8, 8, 8, 8, 8, 8, 8, 8, 8, 8, 8, 8, 8, 8, 8, 8, 8, 8, 8, 8, 8, 8, 8, 8, 8, 8, 8, 8, 8, 8, 8, 8, 8, 8, 8, 8, 8, 8, 8, 8, 8, 8, 8, 8, 8, 8, 8, 8, 8, 8, 8, 8, 8, 8, 8, 8, 8, 8, 8, 8, 8, 8])))) (pConv .u8 (pShr .u64 (pShr .u64 a0 32) 8))) fun y10 =>
 some (pAdd .i64 (pAdd .i64 32 8) (pConv .i64 y10)))) (
 bindO (bidx (ByteArray.mk (List.toArray (List.append (List.append [0, 1, 2, 2, 3, 3, 3, 3, 4, 4, 4, 4, 4, 4, 4, 4, 5, 5, 5, 5, 5, 5, 5, 5, 5, 5, 5, 5, 5, 5, 5, 5, 6, 6, 6, 6, 6, 6, 6, 6, 6, 6, 6, 6, 6, 6, 6, 6, 6, 6, 6, 6, 6, 6, 6, 6, 6, 6, 6, 6, 6, 6, 6, 6] [7, 7, 7, 7, 7, 7, 7, 7, 7, 7, 7, 7, 7, 7, 7, 7, 7, 7, 7, 7, 7, 7, 7, 7, 7, 7, 7, 7, 7, 7, 7, 7, 7, 7, 7, 7, 7, 7, 7, 7, 7, 7, 7, 7, 7, 7, 7, 7, 7, 7, 7, 7, 7, 7, 7, 7, 7, 7, 7, 7, 7, 7, 7, 7]) (List.append [8, 8, 8, 8, 8, 8, 8, 8, 8, 8, 8, 8, 8, 8, 8, 8, 8, 8, 8, 8, 8, 8, 8, 8, 8, 8, 8, 8, 8, 8, 8, 8, 8, 8, 8, 8, 8, 8, 8, 8, 8, 8, 8, 8, 8, 8, 8, 8, 8, 8, 8, 8, 8, 8, 8, 8, 8, 8, 8, 8, 8, 8, 8, 8] [8, 8, 8, 8, 8, 8, 8, 8, 8, 8, 8, 8, 8, 8, 8, 8, 8, 8, 8, 8, 8, 8, 8, 8, 8, 8, 8, 8, 8, 8, 8, 8, 8, 8, 8, 8, 8, 8, 8, 8, 8, 8, 8, 8, 8, 8, 8, 8, 8, 8, 8, 8, 8, 8, 8, 8, 8, 8, 8, 8, 8, 8, 8, 8])))) (pConv .u8 (pShr .u64 a0 32))) fun y11 =>
 some (pAdd .i64 32 (pConv .i64 y11)))))) (
 ifB (pGe a0 65536) (
 ifB (pLt 16 0) (
 none) (
 ifB (pGe (pShr .u64 a0 16) 256) (
 ifB (pLt 8 0) (
 none) (
 bindO (bidx (ByteArray.mk (List.toArray (List.append (List.append [0, 1, 2, 2, 3, 3, 3, 3, 4, 4, 4, 4, 4, 4, 4, 4, 5, 5, 5, 5, 5, 5, 5, 5, 5, 5, 5, 5, 5, 5, 5, 5, 6, 6, 6, 6, 6, 6, 6, 6, 6, 6, 6, 6, 6, 6, 6, 6, 6, 6, 6, 6, 6, 6, 6, 6, 6, 6, 6, 6, 6, 6, 6, 6] [7, 7, 7, 7, 7, 7, 7, 7, 7, 7, 7, 7, 7, 7, 7, 7, 7, 7, 7, 7, 7, 7, 7, 7, 7, 7, 7, 7, 7, 7, 7, 7, 7, 7, 7, 7, 7, 7, 7, 7, 7, 7, 7, 7, 7, 7, 7, 7, 7, 7, 7, 7, 7, 7, 7, 7, 7, 7, 7, 7, 7, 7, 7, 7]) (List.append [8, 8, 8, 8, 8, 8, 8, 8, 8, 8, 8, 8, 8, 8, 8, 8, 8, 8, 8, 8, 8, 8, 8, 8, 8, 8, 8, 8, 8, 8, 8, 8, 8, 8, 8, 8, 8, 8, 8, 8, 8, 8, 8, 8, 8, 8, 8, 8, 8, 8, 8, 8, 8, 8, 8, 8, 8, 8, 8, 8, 8, 8, 8, 8] [8, 8, 8, 8, 8, 8, 8, 8, 8, 8, 8, 8, 8, 8, 8, 8, 8, 8, 8, 8, 8, 8, 8, 8, 8, 8, 8, 8, 8, 8, 8, 8, 8, 8, 8, 8, 8, 8, 8, 8, 8, 8, 8, 8, 8, 8, 8, 8, 8, 8, 8, 8, 8, 8, 8, 8, 8, 8, 8, 8, 8, 8, 8, 8])))) (pConv .u8 (pShr .u64 (pShr .u64 a0 16) 8))) fun y12 =>
 some (pAdd .i64 (pAdd .i64 (pAdd .i64 0 16) 8) (pConv .i64 y12)))) (
 bindO (bidx (ByteArray.mk (List.toArray (List.append (List.append [0, 1, 2, 2, 3, 3, 3, 3, 4, 4, 4, 4, 4, 4, 4, 4, 5, 5, 5, 5, 5, 5, 5, 5, 5, 5, 5, 5, 5, 5, 5, 5, 6, 6, 6, 6, 6, 6, 6, 6, 6, 6, 6, 6, 6, 6, 6, 6, 6, 6, 6, 6, 6, 6, 6, 6, 6, 6, 6, 6, 6, 6, 6, 6] [7, 7, 7, 7, 7, 7, 7, 7, 7, 7, 7, 7, 7, 7, 7, 7, 7, 7, 7, 7, 7, 7, 7, 7, 7, 7, 7, 7, 7, 7, 7, 7, 7, 7, 7, 7, 7, 7, 7, 7, 7, 7, 7, 7, 7, 7, 7, 7, 7, 7, 7, 7, 7, 7, 7, 7, 7, 7, 7, 7, 7, 7, 7, 7]) (List.append [8, 8, 8, 8, 8, 8, 8, 8, 8, 8, 8, 8, 8, 8, 8, 8, 8, 8, 8, 8, 8, 8, 8, 8, 8, 8, 8, 8, 8, 8, 8, 8, 8, 8, 8, 8, 8, 8, 8, 8, 8, 8, 8, 8, 8, 8, 8, 8, 8, 8, 8, 8, 8, 8, 8, 8, 8, 8, 8, 8, 8, 8, 8, 8] [8, 8, 8, 8, 8, 8, 8, 8, 8, 8, 8, 8, 8, 8, 8, 8, 8, 8, 8, 8, 8, 8, 8, 8, 8, 8, 8, 8, 8, 8, 8, 8, 8, 8, 8, 8, 8, 8, 8, 8, 8, 8, 8, 8, 8, 8, 8, 8, 8, 8, 8, 8, 8, 8, 8, 8, 8, 8, 8, 8, 8, 8, 8, 8])))) (pConv .u8 (pShr .u64 a0 16))) fun y13 =>
 some (pAdd .i64 (pAdd .i64 0 16) (pConv .i64 y13))))) (
 ifB (pGe a0 256) (
 ifB (pLt 8 0) (
 none) (
 bindO (bidx (ByteArray.mk (List.toArray (List.append (List.append [0, 1, 2, 2, 3, 3, 3, 3, 4, 4, 4, 4, 4, 4, 4, 4, 5, 5, 5, 5, 5, 5, 5, 5, 5, 5, 5, 5, 5, 5, 5, 5, 6, 6, 6, 6, 6, 6, 6, 6, 6, 6, 6, 6, 6, 6, 6, 6, 6, 6, 6, 6, 6, 6, 6, 6, 6, 6, 6, 6, 6, 6, 6, 6] [7, 7, 7, 7, 7, 7, 7, 7, 7, 7, 7, 7, 7, 7, 7, 7, 7, 7, 7, 7, 7, 7, 7, 7, 7, 7, 7, 7, 7, 7, 7, 7, 7, 7, 7, 7, 7, 7, 7, 7, 7, 7, 7, 7, 7, 7, 7, 7, 7, 7, 7, 7, 7, 7, 7, 7, 7, 7, 7, 7, 7, 7, 7, 7]) (List.append [8, 8, 8, 8, 8, 8, 8, 8, 8, 8, 8, 8, 8, 8, 8, 8, 8, 8, 8, 8, 8, 8, 8, 8, 8, 8, 8, 8, 8, 8, 8, 8, 8, 8, 8, 8, 8, 8, 8, 8, 8, 8, 8, 8, 8, 8, 8, 8, 8, 8, 8, 8, 8, 8, 8, 8, 8, 8, 8, 8, 8, 8, 8, 8] [8, 8, 8, 8, 8, 8, 8, 8, 8, 8, 8, 8, 8, 8, 8, 8, 8, 8, 8, 8, 8, 8, 8, 8, 8, 8, 8, 8, 8, 8, 8, 8, 8, 8, 8, 8, 8, 8, 8, 8, 8, 8, 8, 8, 8, 8, 8, 8, 8, 8, 8, 8, 8, 8, 8, 8, 8, 8, 8, 8, 8, 8, 8, 8])))) (pConv .u8 (pShr .u64 a0 8))) fun y14 =>
 some (pAdd .i64 (pAdd .i64 0 8) (pConv .i64 y14)))) (
 bindO (bidx (ByteArray.mk (List.toArray (List.append (List.append [0, 1, 2, 2, 3, 3, 3, 3, 4, 4, 4, 4, 4, 4, 4, 4, 5, 5, 5, 5, 5, 5, 5, 5, 5, 5, 5, 5, 5, 5, 5, 5, 6, 6, 6, 6, 6, 6, 6, 6, 6, 6, 6, 6, 6, 6, 6, 6, 6, 6, 6, 6, 6, 6, 6, 6, 6, 6, 6, 6, 6, 6, 6, 6] [7, 7, 7, 7, 7, 7, 7, 7, 7, 7, 7, 7, 7, 7, 7, 7, 7, 7, 7, 7, 7, 7, 7, 7, 7, 7, 7, 7, 7, 7, 7, 7, 7, 7, 7, 7, 7, 7, 7, 7, 7, 7, 7, 7, 7, 7, 7, 7, 7, 7, 7, 7, 7, 7, 7, 7, 7, 7, 7, 7, 7, 7, 7, 7]) (List.append [8, 8, 8, 8, 8, 8, 8, 8, 8, 8, 8, 8, 8, 8, 8, 8, 8, 8, 8, 8, 8, 8, 8, 8, 8, 8, 8, 8, 8, 8, 8, 8, 8, 8, 8, 8, 8, 8, 8, 8, 8, 8, 8, 8, 8, 8, 8, 8, 8, 8, 8, 8, 8, 8, 8, 8, 8, 8, 8, 8, 8, 8, 8, 8] [8, 8, 8, 8, 8, 8, 8, 8, 8, 8, 8, 8, 8, 8, 8, 8, 8, 8, 8, 8, 8, 8, 8, 8, 8, 8, 8, 8, 8, 8, 8, 8, 8, 8, 8, 8, 8, 8, 8, 8, 8, 8, 8, 8, 8, 8, 8, 8, 8, 8, 8, 8, 8, 8, 8, 8, 8, 8, 8, 8, 8, 8, 8, 8])))) (pConv .u8 a0)) fun y15 =>
 some (pAdd .i64 0 (pConv .i64 y15)))))
def math_bits_Len (N : Nat) (a0 : Int) : Option (Int) :=
 bindO (math_bits_Len64 N a0) fun y1 =>
 some y1
def cmp_isNaN_Sstring (N : Nat) (a0 : ByteArray) : Option (Bool) :=
 some (pNot (pSEq a0 a0))
def cmp_Less_Sstring (N : Nat) (a0 : ByteArray) (a1 : ByteArray) : Option (Bool) :=
 bindO (cmp_isNaN_Sstring N a0) fun y4 =>
 bindO (
 ifB y4 (
 bindO (cmp_isNaN_Sstring N a1) fun y6 =>
 some (pNot y6)) (
 some false)) fun y5 =>
 bindO (
 ifB y5 (
 some true) (
 some (pSLt a0 a1))) fun y7 =>
 some y7
def slices_insertionSortOrdered_Sstring.l4 {R : Type} (N : Nat) (d : Int × Int × Int × Int × List ByteArray × Unit) (kn : Int × Int × Int × Int × List ByteArray × Unit → Option R) (kx : Int × Int × Int × List ByteArray × Unit → Option R) : Option R :=
 let x69 := d.1;
 let x70 := d.2.1;
 let x71 := d.2.2.1;
 let x72 := d.2.2.2.1;
 let x73 := d.2.2.2.2.1;
 ifB (pGt x72 x69) (
 bindO (idx x73 x72) fun y74 =>
 bindO (idx x73 x72) fun y75 =>
 bindO (idx x73 (pSub .i64 x72 1)) fun y76 =>
 bindO (idx x73 (pSub .i64 x72 1)) fun y77 =>
 bindO (cmp_Less_Sstring N y75 y77) fun y78 =>
 ifB y78 (
 bindO (idx x73 (pSub .i64 x72 1)) fun y79 =>
 bindO (idx x73 (pSub .i64 x72 1)) fun y80 =>
 bindO (idx x73 x72) fun y81 =>
 bindO (idx x73 x72) fun y82 =>
 bindO (idx x73 x72) fun y83 =>
 bindO (idx x73 x72) fun y84 =>
 bindO (idx (pSet x73 x72 y80) (pSub .i64 x72 1)) fun y85 =>
 bindO (idx (pSet x73 x72 y80) (pSub .i64 x72 1)) fun y86 =>
 kn (x69, x70, x71, (pSub .i64 x72 1), (pSet (pSet x73 x72 y80) (pSub .i64 x72 1) y82), ())) (
 kx (x69, x70, x71, x73, ()))) (
 kx (x69, x70, x71, x73, ()))
def slices_insertionSortOrdered_Sstring.l1 {R : Type} (N : Nat) (d : Int × Int × Int × List ByteArray × Unit) (kn : Int × Int × Int × List ByteArray × Unit → Option R) (kx : List ByteArray × Unit → Option R) : Option R :=
 let x65 := d.1;
 let x66 := d.2.1;
 let x67 := d.2.2.1;
 let x68 := d.2.2.2.1;
 ifB (pLt x67 x66) (
 loopP (slices_insertionSortOrdered_Sstring.l4 N) N (x65, x66, x67, x67, x68, ()) (
 fun d =>
 let x87 := d.1;
 let x88 := d.2.1;
 let x89 := d.2.2.1;
 let x90 := d.2.2.2.1;
 kn (x87, x88, (pAdd .i64 x89 1), x90, ()))) (
 kx (x68, ()))
def slices_insertionSortOrdered_Sstring (N : Nat) (a0 : List (ByteArray)) (a1 : Int) (a2 : Int) : Option (List ByteArray) :=
 loopP (slices_insertionSortOrdered_Sstring.l1 N) N (a1, a2, (pAdd .i64 a1 1), a0, ()) (
 fun d =>
 let x91 := d.1;
 some x91)
def slices_siftDownOrdered_Sstring.l1 {R : Type} (N : Nat) (d : Int × Int × Int × List ByteArray × Unit) (kn : Int × Int × Int × List ByteArray × Unit → Option R) (kx : (List ByteArray × Unit) ⊕ (List ByteArray × Unit) → Option R) : Option R :=
 let x98 := d.1;
 let x99 := d.2.1;
 let x100 := d.2.2.1;
 let x101 := d.2.2.2.1;
 ifB (pGe (pAdd .i64 (pMul .i64 2 x100) 1) x98) (
 kx (.inl (x101, ()))) (
 ifB (pLt (pAdd .i64 (pAdd .i64 (pMul .i64 2 x100) 1) 1) x98) (
 bindO (idx x101 (pAdd .i64 x99 (pAdd .i64 (pMul .i64 2 x100) 1))) fun y102 =>
 bindO (idx x101 (pAdd .i64 x99 (pAdd .i64 (pMul .i64 2 x100) 1))) fun y103 =>
 bindO (idx x101 (pAdd .i64 (pAdd .i64 x99 (pAdd .i64 (pMul .i64 2 x100) 1)) 1)) fun y104 =>
 bindO (idx x101 (pAdd .i64 (pAdd .i64 x99 (pAdd .i64 (pMul .i64 2 x100) 1)) 1)) fun y105 =>
 bindO (cmp_Less_Sstring N y103 y105) fun y106 =>
 ifB y106 (
 bindO (idx x101 (pAdd .i64 x99 x100)) fun y107 =>
 bindO (idx x101 (pAdd .i64 x99 x100)) fun y108 =>
 bindO (idx x101 (pAdd .i64 x99 (pAdd .i64 (pAdd .i64 (pMul .i64 2 x100) 1) 1))) fun y109 =>
 bindO (idx x101 (pAdd .i64 x99 (pAdd .i64 (pAdd .i64 (pMul .i64 2 x100) 1) 1))) fun y110 =>
 bindO (cmp_Less_Sstring N y108 y110) fun y111 =>
 ifB (pNot y111) (
 kx (.inr (x101, ()))) (
 bindO (idx x101 (pAdd .i64 x99 (pAdd .i64 (pAdd .i64 (pMul .i64 2 x100) 1) 1))) fun y112 =>
 bindO (idx x101 (pAdd .i64 x99 (pAdd .i64 (pAdd .i64 (pMul .i64 2 x100) 1) 1))) fun y113 =>
 bindO (idx x101 (pAdd .i64 x99 x100)) fun y114 =>
 bindO (idx x101 (pAdd .i64 x99 x100)) fun y115 =>
 bindO (idx x101 (pAdd .i64 x99 x100)) fun y116 =>
 bindO (idx x101 (pAdd .i64 x99 x100)) fun y117 =>
 bindO (idx (pSet x101 (pAdd .i64 x99 x100) y113) (pAdd .i64 x99 (pAdd .i64 (pAdd .i64 (pMul .i64 2 x100) 1) 1))) fun y118 =>
 bindO (idx (pSet x101 (pAdd .i64 x99 x100) y113) (pAdd .i64 x99 (pAdd .i64 (pAdd .i64 (pMul .i64 2 x100) 1) 1))) fun y119 =>
 kn (x98, x99, (pAdd .i64 (pAdd .i64 (pMul .i64 2 x100) 1) 1), (pSet (pSet x101 (pAdd .i64 x99 x100) y113) (pAdd .i64 x99 (pAdd .i64 (pAdd .i64 (pMul .i64 2 x100) 1) 1)) y115), ()))) (
 bindO (idx x101 (pAdd .i64 x99 x100)) fun y120 =>
 bindO (idx x101 (pAdd .i64 x99 x100)) fun y121 =>
 bindO (idx x101 (pAdd .i64 x99 (pAdd .i64 (pMul .i64 2 x100) 1))) fun y122 =>
 bindO (idx x101 (pAdd .i64 x99 (pAdd .i64 (pMul .i64 2 x100) 1))) fun y123 =>
 bindO (cmp_Less_Sstring N y121 y123) fun y124 =>
 ifB (pNot y124) (
 kx (.inr (x101, ()))) (
 bindO (idx x101 (pAdd .i64 x99 (pAdd .i64 (pMul .i64 2 x100) 1))) fun y125 =>
 bindO (idx x101 (pAdd .i64 x99 (pAdd .i64 (pMul .i64 2 x100) 1))) fun y126 =>
 bindO (idx x101 (pAdd .i64 x99 x100)) fun y127 =>
 bindO (idx x101 (pAdd .i64 x99 x100)) fun y128 =>
 bindO (idx x101 (pAdd .i64 x99 x100)) fun y129 =>
 bindO (idx x101 (pAdd .i64 x99 x100)) fun y130 =>
 bindO (idx (pSet x101 (pAdd .i64 x99 x100) y126) (pAdd .i64 x99 (pAdd .i64 (pMul .i64 2 x100) 1))) fun y131 =>
 bindO (idx (pSet x101 (pAdd .i64 x99 x100) y126) (pAdd .i64 x99 (pAdd .i64 (pMul .i64 2 x100) 1))) fun y132 =>
 kn (x98, x99, (pAdd .i64 (pMul .i64 2 x100) 1), (pSet (pSet x101 (pAdd .i64 x99 x100) y126) (pAdd .i64 x99 (pAdd .i64 (pMul .i64 2 x100) 1)) y128), ())))) (
 bindO (idx x101 (pAdd .i64 x99 x100)) fun y133 =>
 bindO (idx x101 (pAdd .i64 x99 x100)) fun y134 =>
 bindO (idx x101 (pAdd .i64 x99 (pAdd .i64 (pMul .i64 2 x100) 1))) fun y135 =>
 bindO (idx x101 (pAdd .i64 x99 (pAdd .i64 (pMul .i64 2 x100) 1))) fun y136 =>
 bindO (cmp_Less_Sstring N y134 y136) fun y137 =>
 ifB (pNot y137) (
 kx (.inr (x101, ()))) (
 bindO (idx x101 (pAdd .i64 x99 (pAdd .i64 (pMul .i64 2 x100) 1))) fun y138 =>
 bindO (idx x101 (pAdd .i64 x99 (pAdd .i64 (pMul .i64 2 x100) 1))) fun y139 =>
 bindO (idx x101 (pAdd .i64 x99 x100)) fun y140 =>
 bindO (idx x101 (pAdd .i64 x99 x100)) fun y141 =>
 bindO (idx x101 (pAdd .i64 x99 x100)) fun y142 =>
 bindO (idx x101 (pAdd .i64 x99 x100)) fun y143 =>
 bindO (idx (pSet x101 (pAdd .i64 x99 x100) y139) (pAdd .i64 x99 (pAdd .i64 (pMul .i64 2 x100) 1))) fun y144 =>
 bindO (idx (pSet x101 (pAdd .i64 x99 x100) y139) (pAdd .i64 x99 (pAdd .i64 (pMul .i64 2 x100) 1))) fun y145 =>
 kn (x98, x99, (pAdd .i64 (pMul .i64 2 x100) 1), (pSet (pSet x101 (pAdd .i64 x99 x100) y139) (pAdd .i64 x99 (pAdd .i64 (pMul .i64 2 x100) 1)) y141), ()))))
def slices_siftDownOrdered_Sstring (N : Nat) (a0 : List (ByteArray)) (a1 : Int) (a2 : Int) (a3 : Int) : Option (List ByteArray) :=
 loopP (slices_siftDownOrdered_Sstring.l1 N) N (a2, a3, a1, a0, ()) (
 onSum (fun d =>
 let x146 := d.1;
 some x146) (
 fun d =>
 let x147 := d.1;
 some x147))
def slices_heapSortOrdered_Sstring.l4 {R : Type} (N : Nat) (d : Int × Int × Int × Int × List ByteArray × Unit) (kn : Int × Int × Int × Int × List ByteArray × Unit → Option R) (kx : Int × Int × Int × List ByteArray × Unit → Option R) : Option R :=
 let x53 := d.1;
 let x54 := d.2.1;
 let x55 := d.2.2.1;
 let x56 := d.2.2.2.1;
 let x57 := d.2.2.2.2.1;
 ifB (pGe x56 0) (
 bindO (slices_siftDownOrdered_Sstring N x57 x56 x55 x53) fun y58 =>
 kn (x53, x54, x55, (pSub .i64 x56 1), y58, ())) (
 kx (x53, x54, x55, x57, ()))
def slices_heapSortOrdered_Sstring.l8 {R : Type} (N : Nat) (d : Int × Int × Int × List ByteArray × Unit) (kn : Int × Int × Int × List ByteArray × Unit → Option R) (kx : List ByteArray × Unit → Option R) : Option R :=
 let x63 := d.1;
 let x64 := d.2.1;
 let x65 := d.2.2.1;
 let x66 := d.2.2.2.1;
 ifB (pGe x65 0) (
 bindO (idx x66 (pAdd .i64 x63 x65)) fun y67 =>
 bindO (idx x66 (pAdd .i64 x63 x65)) fun y68 =>
 bindO (idx x66 x63) fun y69 =>
 bindO (idx x66 x63) fun y70 =>
 bindO (idx x66 x63) fun y71 =>
 bindO (idx x66 x63) fun y72 =>
 bindO (idx (pSet x66 x63 y68) (pAdd .i64 x63 x65)) fun y73 =>
 bindO (idx (pSet x66 x63 y68) (pAdd .i64 x63 x65)) fun y74 =>
 bindO (slices_siftDownOrdered_Sstring N (pSet (pSet x66 x63 y68) (pAdd .i64 x63 x65) y70) x64 x65 x63) fun y75 =>
 kn (x63, x64, (pSub .i64 x65 1), y75, ())) (
 kx (x66, ()))
def slices_heapSortOrdered_Sstring (N : Nat) (a0 : List (ByteArray)) (a1 : Int) (a2 : Int) : Option (List ByteArray) :=
 ifB (pEq 2 0) (
 none) (
 loopP (slices_heapSortOrdered_Sstring.l4 N) N (a1, 0, (pSub .i64 a2 a1), (pQuo .i64 (pSub .i64 (pSub .i64 a2 a1) 1) 2), a0, ()) (
 fun d =>
 let x59 := d.1;
 let x60 := d.2.1;
 let x61 := d.2.2.1;
 let x62 := d.2.2.2.1;
 loopP (slices_heapSortOrdered_Sstring.l8 N) N (x59, x60, (pSub .i64 x61 1), x62, ()) (
 fun d =>
 let x76 := d.1;
 some x76)))
def slices_nextPowerOfTwo (N : Nat) (a0 : Int) : Option (Int) :=
 bindO (math_bits_Len N (pConv .u64 a0)) fun y1 =>
 ifB (pLt y1 0) (
 none) (
 some (pShl .u64 1 y1))
def slices_xorshift_Next (N : Nat) (a0 : Int) : Option (Int × Int) :=
 ifB (pLt 13 0) (
 none) (
 ifB (pLt 7 0) (
 none) (
 ifB (pLt 17 0) (
 none) (
 some ((pXor .u64 (pXor .u64 (pXor .u64 a0 (pShl .u64 a0 13)) (pShr .u64 (pXor .u64 a0 (pShl .u64 a0 13)) 7)) (pShl .u64 (pXor .u64 (pXor .u64 a0 (pShl .u64 a0 13)) (pShr .u64 (pXor .u64 a0 (pShl .u64 a0 13)) 7)) 17)), (pXor .u64 (pXor .u64 (pXor .u64 a0 (pShl .u64 a0 13)) (pShr .u64 (pXor .u64 a0 (pShl .u64 a0 13)) 7)) (pShl .u64 (pXor .u64 (pXor .u64 a0 (pShl .u64 a0 13)) (pShr .u64 (pXor .u64 a0 (pShl .u64 a0 13)) 7)) 17))))))
def slices_breakPatternsOrdered_Sstring.l5 {R : Type} (N : Nat) (d : Int × Int × Int × Int × List ByteArray × Int × Unit) (kn : Int × Int × Int × Int × List ByteArray × Int × Unit → Option R) (kx : List ByteArray × Unit → Option R) : Option R :=
 let x61 := d.1;
 let x62 := d.2.1;
 let x63 := d.2.2.1;
 let x64 := d.2.2.2.1;
 let x65 := d.2.2.2.2.1;
 let x66 := d.2.2.2.2.2.1;
 ifB (pEq 4 0) (
 none) (
 ifB (pLe x64 (pAdd .i64 (pAdd .i64 x61 (pMul .i64 (pQuo .i64 x62 4) 2)) 1)) (
 bindO (A := Int × Int × Int × Int × List ByteArray × Int × Unit) (
 bindO (slices_xorshift_Next N x66) fun y67 =>
 ifB (pGe (pConv .i64 (pAnd .u64 y67.1 (pSub .u64 x63 1))) x62) (
 bindO (idx x65 (pAdd .i64 x61 (pSub .i64 (pConv .i64 (pAnd .u64 y67.1 (pSub .u64 x63 1))) x62))) fun y68 =>
 bindO (idx x65 (pAdd .i64 x61 (pSub .i64 (pConv .i64 (pAnd .u64 y67.1 (pSub .u64 x63 1))) x62))) fun y69 =>
 bindO (idx x65 x64) fun y70 =>
 bindO (idx x65 x64) fun y71 =>
 bindO (idx x65 x64) fun y72 =>
 bindO (idx x65 x64) fun y73 =>
 bindO (idx (pSet x65 x64 y69) (pAdd .i64 x61 (pSub .i64 (pConv .i64 (pAnd .u64 y67.1 (pSub .u64 x63 1))) x62))) fun y74 =>
 bindO (idx (pSet x65 x64 y69) (pAdd .i64 x61 (pSub .i64 (pConv .i64 (pAnd .u64 y67.1 (pSub .u64 x63 1))) x62))) fun y75 =>
 some (x61, x62, x63, x64, (pSet (pSet x65 x64 y69) (pAdd .i64 x61 (pSub .i64 (pConv .i64 (pAnd .u64 y67.1 (pSub .u64 x63 1))) x62)) y71), y67.2, ())) (
 bindO (idx x65 (pAdd .i64 x61 (pConv .i64 (pAnd .u64 y67.1 (pSub .u64 x63 1))))) fun y76 =>
 bindO (idx x65 (pAdd .i64 x61 (pConv .i64 (pAnd .u64 y67.1 (pSub .u64 x63 1))))) fun y77 =>
 bindO (idx x65 x64) fun y78 =>
 bindO (idx x65 x64) fun y79 =>
 bindO (idx x65 x64) fun y80 =>
 bindO (idx x65 x64) fun y81 =>
 bindO (idx (pSet x65 x64 y77) (pAdd .i64 x61 (pConv .i64 (pAnd .u64 y67.1 (pSub .u64 x63 1))))) fun y82 =>
 bindO (idx (pSet x65 x64 y77) (pAdd .i64 x61 (pConv .i64 (pAnd .u64 y67.1 (pSub .u64 x63 1))))) fun y83 =>
 some (x61, x62, x63, x64, (pSet (pSet x65 x64 y77) (pAdd .i64 x61 (pConv .i64 (pAnd .u64 y67.1 (pSub .u64 x63 1)))) y79), y67.2, ()))) (
 fun d =>
 let x84 := d.1;
 let x85 := d.2.1;
 let x86 := d.2.2.1;
 let x87 := d.2.2.2.1;
 let x88 := d.2.2.2.2.1;
 let x89 := d.2.2.2.2.2.1;
 kn (x84, x85, x86, (pAdd .i64 x87 1), x88, x89, ()))) (
 kx (x65, ())))
def slices_breakPatternsOrdered_Sstring (N : Nat) (a0 : List (ByteArray)) (a1 : Int) (a2 : Int) : Option (List ByteArray) :=
 ifB (pGe (pSub .i64 a2 a1) 8) (
 bindO (slices_nextPowerOfTwo N (pSub .i64 a2 a1)) fun y60 =>
 ifB (pEq 4 0) (
 none) (
 loopP (slices_breakPatternsOrdered_Sstring.l5 N) N (a1, (pSub .i64 a2 a1), y60, (pSub .i64 (pAdd .i64 a1 (pMul .i64 (pQuo .i64 (pSub .i64 a2 a1) 4) 2)) 1), a0, (pConv .u64 (pSub .i64 a2 a1)), ()) (
 fun d =>
 let x90 := d.1;
 some x90))) (
 some a0)
def slices_order2Ordered_Sstring (N : Nat) (a0 : List (ByteArray)) (a1 : Int) (a2 : Int) (a3 : Int) : Option (Int × Int × Int) :=
 bindO (idx a0 a2) fun y3 =>
 bindO (idx a0 a1) fun y4 =>
 bindO (cmp_Less_Sstring N y3 y4) fun y5 =>
 ifB y5 (
 some (a2, a1, (pAdd .i64 a3 1))) (
 some (a1, a2, a3))
def slices_medianOrdered_Sstring (N : Nat) (a0 : List (ByteArray)) (a1 : Int) (a2 : Int) (a3 : Int) (a4 : Int) : Option (Int × Int) :=
 bindO (slices_order2Ordered_Sstring N a0 a1 a2 a4) fun y3 =>
 bindO (slices_order2Ordered_Sstring N a0 y3.2.1 a3 y3.2.2) fun y4 =>
 bindO (slices_order2Ordered_Sstring N a0 y3.1 y4.1 y4.2.2) fun y5 =>
 some (y5.2.1, y5.2.2)
def slices_medianAdjacentOrdered_Sstring (N : Nat) (a0 : List (ByteArray)) (a1 : Int) (a2 : Int) : Option (Int × Int) :=
 bindO (slices_medianOrdered_Sstring N a0 (pSub .i64 a1 1) a1 (pAdd .i64 a1 1) a2) fun y1 =>
 some (y1.1, y1.2)
end Go.AE.F
end
