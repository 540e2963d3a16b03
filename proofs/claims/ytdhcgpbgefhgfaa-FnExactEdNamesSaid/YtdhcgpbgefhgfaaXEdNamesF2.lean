/- Functions as they are printed out of the program: plain Lean, nothing is claimed here. -/
import Derived.Test.YtdhcgpbgefhgfaaXEdNamesF1
noncomputable section
namespace Go.AE.F
open Go.AE
def slices_choosePivotOrdered_Sstring (N : Nat) (a0 : List (ByteArray)) (a1 : Int) (a2 : Int) : Option (Int × Int) :=
 ifB (pEq 4 0) (
 none) (
 ifB (pEq 4 0) (
 none) (
 ifB (pEq 4 0) (
 none) (
 ifB (pGe (pSub .i64 a2 a1) 8) (
 ifB (pGe (pSub .i64 a2 a1) 50) (
 bindO (slices_medianAdjacentOrdered_Sstring N a0 (pAdd .i64 a1 (pMul .i64 (pQuo .i64 (pSub .i64 a2 a1) 4) 1)) 0) fun y5 =>
 bindO (slices_medianAdjacentOrdered_Sstring N a0 (pAdd .i64 a1 (pMul .i64 (pQuo .i64 (pSub .i64 a2 a1) 4) 2)) y5.2) fun y6 =>
 bindO (slices_medianAdjacentOrdered_Sstring N a0 (pAdd .i64 a1 (pMul .i64 (pQuo .i64 (pSub .i64 a2 a1) 4) 3)) y6.2) fun y7 =>
 bindO (slices_medianOrdered_Sstring N a0 y5.1 y6.1 y7.1 y7.2) fun y8 =>
 ifB (pEq y8.2 0) (
 some (y8.1, 1)) (
 ifB (pEq y8.2 12) (
 some (y8.1, 2)) (
 some (y8.1, 0)))) (
 bindO (slices_medianOrdered_Sstring N a0 (pAdd .i64 a1 (pMul .i64 (pQuo .i64 (pSub .i64 a2 a1) 4) 1)) (pAdd .i64 a1 (pMul .i64 (pQuo .i64 (pSub .i64 a2 a1) 4) 2)) (pAdd .i64 a1 (pMul .i64 (pQuo .i64 (pSub .i64 a2 a1) 4) 3)) 0) fun y9 =>
 ifB (pEq y9.2 0) (
 some (y9.1, 1)) (
 ifB (pEq y9.2 12) (
 some (y9.1, 2)) (
 some (y9.1, 0))))) (
 ifB (pEq 0 0) (
 some ((pAdd .i64 a1 (pMul .i64 (pQuo .i64 (pSub .i64 a2 a1) 4) 2)), 1)) (
 ifB (pEq 0 12) (
 some ((pAdd .i64 a1 (pMul .i64 (pQuo .i64 (pSub .i64 a2 a1) 4) 2)), 2)) (
 some ((pAdd .i64 a1 (pMul .i64 (pQuo .i64 (pSub .i64 a2 a1) 4) 2)), 0)))))))
def slices_reverseRangeOrdered_Sstring.l2 {R : Type} (N : Nat) (d : Int × Int × List ByteArray × Unit) (kn : Int × Int × List ByteArray × Unit → Option R) (kx : List ByteArray × Unit → Option R) : Option R :=
 let x23 := d.1;
 let x24 := d.2.1;
 let x25 := d.2.2.1;
 ifB (pLt x23 x24) (
 bindO (idx x25 x24) fun y26 =>
 bindO (idx x25 x24) fun y27 =>
 bindO (idx x25 x23) fun y28 =>
 bindO (idx x25 x23) fun y29 =>
 bindO (idx x25 x23) fun y30 =>
 bindO (idx x25 x23) fun y31 =>
 bindO (idx (pSet x25 x23 y27) x24) fun y32 =>
 bindO (idx (pSet x25 x23 y27) x24) fun y33 =>
 kn ((pAdd .i64 x23 1), (pSub .i64 x24 1), (pSet (pSet x25 x23 y27) x24 y29), ())) (
 kx (x25, ()))
def slices_reverseRangeOrdered_Sstring (N : Nat) (a0 : List (ByteArray)) (a1 : Int) (a2 : Int) : Option (List ByteArray) :=
 loopP (slices_reverseRangeOrdered_Sstring.l2 N) N (a1, (pSub .i64 a2 1), a0, ()) (
 fun d =>
 let x34 := d.1;
 some x34)
def slices_partialInsertionSortOrdered_Sstring.l5 {R : Type} (N : Nat) (d : Int × Int × Int × Int × List ByteArray × Unit) (kn : Int × Int × Int × Int × List ByteArray × Unit → Option R) (kx : Int × Int × Int × Int × List ByteArray × Unit → Option R) : Option R :=
 let x215 := d.1;
 let x216 := d.2.1;
 let x217 := d.2.2.1;
 let x218 := d.2.2.2.1;
 let x219 := d.2.2.2.2.1;
 ifB (pLt x217 x216) (
 bindO (idx x219 x217) fun y220 =>
 bindO (idx x219 x217) fun y221 =>
 bindO (idx x219 (pSub .i64 x217 1)) fun y222 =>
 bindO (idx x219 (pSub .i64 x217 1)) fun y223 =>
 bindO (cmp_Less_Sstring N y221 y223) fun y224 =>
 ifB (pNot y224) (
 kn (x215, x216, (pAdd .i64 x217 1), x218, x219, ())) (
 kx (x215, x216, x217, x218, x219, ()))) (
 kx (x215, x216, x217, x218, x219, ()))
def slices_partialInsertionSortOrdered_Sstring.l14 {R : Type} (N : Nat) (d : Int × Int × Int × Int × Int × List ByteArray × Unit) (kn : Int × Int × Int × Int × Int × List ByteArray × Unit → Option R) (kx : Int × Int × Int × Int × List ByteArray × Unit → Option R) : Option R :=
 let x238 := d.1;
 let x239 := d.2.1;
 let x240 := d.2.2.1;
 let x241 := d.2.2.2.1;
 let x242 := d.2.2.2.2.1;
 let x243 := d.2.2.2.2.2.1;
 ifB (pGe x242 1) (
 bindO (idx x243 x242) fun y244 =>
 bindO (idx x243 x242) fun y245 =>
 bindO (idx x243 (pSub .i64 x242 1)) fun y246 =>
 bindO (idx x243 (pSub .i64 x242 1)) fun y247 =>
 bindO (cmp_Less_Sstring N y245 y247) fun y248 =>
 ifB (pNot y248) (
 kx (x238, x239, x240, x241, x243, ())) (
 bindO (idx x243 (pSub .i64 x242 1)) fun y249 =>
 bindO (idx x243 (pSub .i64 x242 1)) fun y250 =>
 bindO (idx x243 x242) fun y251 =>
 bindO (idx x243 x242) fun y252 =>
 bindO (idx x243 x242) fun y253 =>
 bindO (idx x243 x242) fun y254 =>
 bindO (idx (pSet x243 x242 y250) (pSub .i64 x242 1)) fun y255 =>
 bindO (idx (pSet x243 x242 y250) (pSub .i64 x242 1)) fun y256 =>
 kn (x238, x239, x240, x241, (pSub .i64 x242 1), (pSet (pSet x243 x242 y250) (pSub .i64 x242 1) y252), ()))) (
 kx (x238, x239, x240, x241, x243, ()))
def slices_partialInsertionSortOrdered_Sstring.l20 {R : Type} (N : Nat) (d : Int × Int × Int × Int × Int × List ByteArray × Unit) (kn : Int × Int × Int × Int × Int × List ByteArray × Unit → Option R) (kx : Int × Int × Int × Int × List ByteArray × Unit → Option R) : Option R :=
 let x262 := d.1;
 let x263 := d.2.1;
 let x264 := d.2.2.1;
 let x265 := d.2.2.2.1;
 let x266 := d.2.2.2.2.1;
 let x267 := d.2.2.2.2.2.1;
 ifB (pLt x266 x263) (
 bindO (idx x267 x266) fun y268 =>
 bindO (idx x267 x266) fun y269 =>
 bindO (idx x267 (pSub .i64 x266 1)) fun y270 =>
 bindO (idx x267 (pSub .i64 x266 1)) fun y271 =>
 bindO (cmp_Less_Sstring N y269 y271) fun y272 =>
 ifB (pNot y272) (
 kx (x262, x263, x264, x265, x267, ())) (
 bindO (idx x267 (pSub .i64 x266 1)) fun y273 =>
 bindO (idx x267 (pSub .i64 x266 1)) fun y274 =>
 bindO (idx x267 x266) fun y275 =>
 bindO (idx x267 x266) fun y276 =>
 bindO (idx x267 x266) fun y277 =>
 bindO (idx x267 x266) fun y278 =>
 bindO (idx (pSet x267 x266 y274) (pSub .i64 x266 1)) fun y279 =>
 bindO (idx (pSet x267 x266 y274) (pSub .i64 x266 1)) fun y280 =>
 kn (x262, x263, x264, x265, (pAdd .i64 x266 1), (pSet (pSet x267 x266 y274) (pSub .i64 x266 1) y276), ()))) (
 kx (x262, x263, x264, x265, x267, ()))
def slices_partialInsertionSortOrdered_Sstring.l3 {R : Type} (N : Nat) (d : Int × Int × Int × Int × List ByteArray × Unit) (kn : Int × Int × Int × Int × List ByteArray × Unit → Option R) (kx : (List ByteArray × Unit) ⊕ (Bool × List ByteArray × Unit) → Option R) : Option R :=
 let x210 := d.1;
 let x211 := d.2.1;
 let x212 := d.2.2.1;
 let x213 := d.2.2.2.1;
 let x214 := d.2.2.2.2.1;
 ifB (pLt x213 5) (
 bindO (A := (Int × Int × Int × Int × List ByteArray × Unit) ⊕ (Bool × List ByteArray × Unit)) (
 loopP (slices_partialInsertionSortOrdered_Sstring.l5 N) N (x210, x211, x212, x213, x214, ()) (
 fun d =>
 let x225 := d.1;
 let x226 := d.2.1;
 let x227 := d.2.2.1;
 let x228 := d.2.2.2.1;
 let x229 := d.2.2.2.2.1;
 ifB (pEq x227 x226) (
 some (.inr (true, x229, ()))) (
 ifB (pLt (pSub .i64 x226 x225) 50) (
 some (.inr (false, x229, ()))) (
 bindO (idx x229 (pSub .i64 x227 1)) fun y230 =>
 bindO (idx x229 (pSub .i64 x227 1)) fun y231 =>
 bindO (idx x229 x227) fun y232 =>
 bindO (idx x229 x227) fun y233 =>
 bindO (idx x229 x227) fun y234 =>
 bindO (idx x229 x227) fun y235 =>
 bindO (idx (pSet x229 x227 y231) (pSub .i64 x227 1)) fun y236 =>
 bindO (idx (pSet x229 x227 y231) (pSub .i64 x227 1)) fun y237 =>
 ifB (pGe (pSub .i64 x227 x225) 2) (
 loopP (slices_partialInsertionSortOrdered_Sstring.l14 N) N (x225, x226, x227, x228, (pSub .i64 x227 1), (pSet (pSet x229 x227 y231) (pSub .i64 x227 1) y233), ()) (
 fun d =>
 let x257 := d.1;
 let x258 := d.2.1;
 let x259 := d.2.2.1;
 let x260 := d.2.2.2.1;
 let x261 := d.2.2.2.2.1;
 ifB (pGe (pSub .i64 x258 x259) 2) (
 loopP (slices_partialInsertionSortOrdered_Sstring.l20 N) N (x257, x258, x259, x260, (pAdd .i64 x259 1), x261, ()) (
 fun d =>
 let x281 := d.1;
 let x282 := d.2.1;
 let x283 := d.2.2.1;
 let x284 := d.2.2.2.1;
 let x285 := d.2.2.2.2.1;
 some (.inl (x281, x282, x283, x284, x285, ())))) (
 some (.inl (x257, x258, x259, x260, x261, ()))))) (
 ifB (pGe (pSub .i64 x226 x227) 2) (
 loopP (slices_partialInsertionSortOrdered_Sstring.l20 N) N (x225, x226, x227, x228, (pAdd .i64 x227 1), (pSet (pSet x229 x227 y231) (pSub .i64 x227 1) y233), ()) (
 fun d =>
 let x305 := d.1;
 let x306 := d.2.1;
 let x307 := d.2.2.1;
 let x308 := d.2.2.2.1;
 let x309 := d.2.2.2.2.1;
 some (.inl (x305, x306, x307, x308, x309, ())))) (
 some (.inl (x225, x226, x227, x228, (pSet (pSet x229 x227 y231) (pSub .i64 x227 1) y233), ())))))))) (
 onSum (fun d =>
 let x310 := d.1;
 let x311 := d.2.1;
 let x312 := d.2.2.1;
 let x313 := d.2.2.2.1;
 let x314 := d.2.2.2.2.1;
 kn (x310, x311, x312, (pAdd .i64 x313 1), x314, ())) (
 fun d =>
 let x315 := d.1;
 let x316 := d.2.1;
 kx (.inr (x315, x316, ()))))) (
 kx (.inl (x214, ())))
def slices_partialInsertionSortOrdered_Sstring (N : Nat) (a0 : List (ByteArray)) (a1 : Int) (a2 : Int) : Option (Bool × List ByteArray) :=
 loopP (slices_partialInsertionSortOrdered_Sstring.l3 N) N (a1, a2, (pAdd .i64 a1 1), 0, a0, ()) (
 onSum (fun d =>
 let x317 := d.1;
 some (false, x317)) (
 fun d =>
 let x318 := d.1;
 let x319 := d.2.1;
 some (x318, x319)))
def slices_partitionEqualOrdered_Sstring.l3 {R : Type} (N : Nat) (d : Int × Int × Int × List ByteArray × Unit) (kn : Int × Int × Int × List ByteArray × Unit → Option R) (kx : Int × Int × Int × List ByteArray × Unit → Option R) : Option R :=
 let x108 := d.1;
 let x109 := d.2.1;
 let x110 := d.2.2.1;
 let x111 := d.2.2.2.1;
 ifB (pLe x109 x110) (
 bindO (idx x111 x108) fun y112 =>
 bindO (idx x111 x108) fun y113 =>
 bindO (idx x111 x109) fun y114 =>
 bindO (idx x111 x109) fun y115 =>
 bindO (cmp_Less_Sstring N y113 y115) fun y116 =>
 ifB (pNot y116) (
 kn (x108, (pAdd .i64 x109 1), x110, x111, ())) (
 kx (x108, x109, x110, x111, ()))) (
 kx (x108, x109, x110, x111, ()))
def slices_partitionEqualOrdered_Sstring.l5 {R : Type} (N : Nat) (d : Int × Int × Int × List ByteArray × Unit) (kn : Int × Int × Int × List ByteArray × Unit → Option R) (kx : Int × Int × Int × List ByteArray × Unit → Option R) : Option R :=
 let x121 := d.1;
 let x122 := d.2.1;
 let x123 := d.2.2.1;
 let x124 := d.2.2.2.1;
 ifB (pLe x122 x123) (
 bindO (idx x124 x121) fun y125 =>
 bindO (idx x124 x121) fun y126 =>
 bindO (idx x124 x123) fun y127 =>
 bindO (idx x124 x123) fun y128 =>
 bindO (cmp_Less_Sstring N y126 y128) fun y129 =>
 ifB y129 (
 kn (x121, x122, (pSub .i64 x123 1), x124, ())) (
 kx (x121, x122, x123, x124, ()))) (
 kx (x121, x122, x123, x124, ()))
def slices_partitionEqualOrdered_Sstring.l1000003 {R : Type} (N : Nat) (d : Int × Int × Int × List ByteArray × Unit) (kn : Int × Int × Int × List ByteArray × Unit → Option R) (kx : Int × List ByteArray × Unit → Option R) : Option R :=
 let x104 := d.1;
 let x105 := d.2.1;
 let x106 := d.2.2.1;
 let x107 := d.2.2.2.1;
 loopP (slices_partitionEqualOrdered_Sstring.l3 N) N (x104, x105, x106, x107, ()) (
 fun d =>
 let x117 := d.1;
 let x118 := d.2.1;
 let x119 := d.2.2.1;
 let x120 := d.2.2.2.1;
 loopP (slices_partitionEqualOrdered_Sstring.l5 N) N (x117, x118, x119, x120, ()) (
 fun d =>
 let x130 := d.1;
 let x131 := d.2.1;
 let x132 := d.2.2.1;
 let x133 := d.2.2.2.1;
 ifB (pGt x131 x132) (
 kx (x131, x133, ())) (
 bindO (idx x133 x132) fun y134 =>
 bindO (idx x133 x132) fun y135 =>
 bindO (idx x133 x131) fun y136 =>
 bindO (idx x133 x131) fun y137 =>
 bindO (idx x133 x131) fun y138 =>
 bindO (idx x133 x131) fun y139 =>
 bindO (idx (pSet x133 x131 y135) x132) fun y140 =>
 bindO (idx (pSet x133 x131 y135) x132) fun y141 =>
 kn (x130, (pAdd .i64 x131 1), (pSub .i64 x132 1), (pSet (pSet x133 x131 y135) x132 y137), ()))))
def slices_partitionEqualOrdered_Sstring (N : Nat) (a0 : List (ByteArray)) (a1 : Int) (a2 : Int) (a3 : Int) : Option (Int × List ByteArray) :=
 bindO (idx a0 a3) fun y96 =>
 bindO (idx a0 a3) fun y97 =>
 bindO (idx a0 a1) fun y98 =>
 bindO (idx a0 a1) fun y99 =>
 bindO (idx a0 a1) fun y100 =>
 bindO (idx a0 a1) fun y101 =>
 bindO (idx (pSet a0 a1 y97) a3) fun y102 =>
 bindO (idx (pSet a0 a1 y97) a3) fun y103 =>
 loopP (slices_partitionEqualOrdered_Sstring.l1000003 N) N (a1, (pAdd .i64 a1 1), (pSub .i64 a2 1), (pSet (pSet a0 a1 y97) a3 y99), ()) (
 fun d =>
 let x142 := d.1;
 let x143 := d.2.1;
 some (x142, x143))
def slices_partitionOrdered_Sstring.l3 {R : Type} (N : Nat) (d : Int × Int × Int × List ByteArray × Unit) (kn : Int × Int × Int × List ByteArray × Unit → Option R) (kx : Int × Int × Int × List ByteArray × Unit → Option R) : Option R :=
 let x182 := d.1;
 let x183 := d.2.1;
 let x184 := d.2.2.1;
 let x185 := d.2.2.2.1;
 ifB (pLe x183 x184) (
 bindO (idx x185 x183) fun y186 =>
 bindO (idx x185 x183) fun y187 =>
 bindO (idx x185 x182) fun y188 =>
 bindO (idx x185 x182) fun y189 =>
 bindO (cmp_Less_Sstring N y187 y189) fun y190 =>
 ifB y190 (
 kn (x182, (pAdd .i64 x183 1), x184, x185, ())) (
 kx (x182, x183, x184, x185, ()))) (
 kx (x182, x183, x184, x185, ()))
def slices_partitionOrdered_Sstring.l5 {R : Type} (N : Nat) (d : Int × Int × Int × List ByteArray × Unit) (kn : Int × Int × Int × List ByteArray × Unit → Option R) (kx : Int × Int × Int × List ByteArray × Unit → Option R) : Option R :=
 let x195 := d.1;
 let x196 := d.2.1;
 let x197 := d.2.2.1;
 let x198 := d.2.2.2.1;
 ifB (pLe x196 x197) (
 bindO (idx x198 x197) fun y199 =>
 bindO (idx x198 x197) fun y200 =>
 bindO (idx x198 x195) fun y201 =>
 bindO (idx x198 x195) fun y202 =>
 bindO (cmp_Less_Sstring N y200 y202) fun y203 =>
 ifB (pNot y203) (
 kn (x195, x196, (pSub .i64 x197 1), x198, ())) (
 kx (x195, x196, x197, x198, ()))) (
 kx (x195, x196, x197, x198, ()))
def slices_partitionOrdered_Sstring.l13 {R : Type} (N : Nat) (d : Int × Int × Int × List ByteArray × Unit) (kn : Int × Int × Int × List ByteArray × Unit → Option R) (kx : Int × Int × Int × List ByteArray × Unit → Option R) : Option R :=
 let x228 := d.1;
 let x229 := d.2.1;
 let x230 := d.2.2.1;
 let x231 := d.2.2.2.1;
 ifB (pLe x229 x230) (
 bindO (idx x231 x229) fun y232 =>
 bindO (idx x231 x229) fun y233 =>
 bindO (idx x231 x228) fun y234 =>
 bindO (idx x231 x228) fun y235 =>
 bindO (cmp_Less_Sstring N y233 y235) fun y236 =>
 ifB y236 (
 kn (x228, (pAdd .i64 x229 1), x230, x231, ())) (
 kx (x228, x229, x230, x231, ()))) (
 kx (x228, x229, x230, x231, ()))
def slices_partitionOrdered_Sstring.l15 {R : Type} (N : Nat) (d : Int × Int × Int × List ByteArray × Unit) (kn : Int × Int × Int × List ByteArray × Unit → Option R) (kx : Int × Int × Int × List ByteArray × Unit → Option R) : Option R :=
 let x241 := d.1;
 let x242 := d.2.1;
 let x243 := d.2.2.1;
 let x244 := d.2.2.2.1;
 ifB (pLe x242 x243) (
 bindO (idx x244 x243) fun y245 =>
 bindO (idx x244 x243) fun y246 =>
 bindO (idx x244 x241) fun y247 =>
 bindO (idx x244 x241) fun y248 =>
 bindO (cmp_Less_Sstring N y246 y248) fun y249 =>
 ifB (pNot y249) (
 kn (x241, x242, (pSub .i64 x243 1), x244, ())) (
 kx (x241, x242, x243, x244, ()))) (
 kx (x241, x242, x243, x244, ()))
end Go.AE.F
end
