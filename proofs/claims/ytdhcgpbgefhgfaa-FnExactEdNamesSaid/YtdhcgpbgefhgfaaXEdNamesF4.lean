/- Functions as they are printed out of the program: plain Lean, nothing is claimed here. -/
import Derived.Test.YtdhcgpbgefhgfaaXEdNamesF3
noncomputable section
namespace Go.AE.F
open Go.AE
def slices_pdqsortOrdered_Sstring.l2 {R : Type} (N : Nat) (rc : (List (ByteArray)) → (Int) → (Int) → (Int) → Option (List (ByteArray))) (d : Int × Int × Int × Bool × Bool × List ByteArray × Unit) (kn : Int × Int × Int × Bool × Bool × List ByteArray × Unit → Option R) (kx : List ByteArray × Unit → Option R) : Option R :=
 let x243 := d.1;
 let x244 := d.2.1;
 let x245 := d.2.2.1;
 let x246 := d.2.2.2.1;
 let x247 := d.2.2.2.2.1;
 let x248 := d.2.2.2.2.2.1;
 ifB (pLe (pSub .i64 x244 x243) 12) (
 bindO (slices_insertionSortOrdered_Sstring N x248 x243 x244) fun y249 =>
 kx (y249, ())) (
 ifB (pEq x245 0) (
 bindO (slices_heapSortOrdered_Sstring N x248 x243 x244) fun y250 =>
 kx (y250, ())) (
 ifB (pNot x246) (
 bindO (slices_breakPatternsOrdered_Sstring N x248 x243 x244) fun y251 =>
 bindO (slices_choosePivotOrdered_Sstring N y251 x243 x244) fun y252 =>
 ifB (pEq y252.2 2) (
 bindO (slices_reverseRangeOrdered_Sstring N y251 x243 x244) fun y253 =>
 bindO (
 ifB x246 (
 some x247) (
 some false)) fun y254 =>
 bindO (
 ifB y254 (
 some (pEq 1 1)) (
 some false)) fun y255 =>
 ifB y255 (
 bindO (slices_partialInsertionSortOrdered_Sstring N y253 x243 x244) fun y256 =>
 ifB y256.1 (
 kx (y256.2, ())) (
 ifB (pGt x243 0) (
 bindO (idx y256.2 (pSub .i64 x243 1)) fun y257 =>
 bindO (idx y256.2 (pSub .i64 x243 1)) fun y258 =>
 bindO (idx y256.2 (pSub .i64 (pSub .i64 x244 1) (pSub .i64 y252.1 x243))) fun y259 =>
 bindO (idx y256.2 (pSub .i64 (pSub .i64 x244 1) (pSub .i64 y252.1 x243))) fun y260 =>
 bindO (cmp_Less_Sstring N y258 y260) fun y261 =>
 ifB (pNot y261) (
 bindO (slices_partitionEqualOrdered_Sstring N y256.2 x243 x244 (pSub .i64 (pSub .i64 x244 1) (pSub .i64 y252.1 x243))) fun y262 =>
 kn (y262.1, x244, (pSub .i64 x245 1), x246, x247, y262.2, ())) (
 bindO (slices_partitionOrdered_Sstring N y256.2 x243 x244 (pSub .i64 (pSub .i64 x244 1) (pSub .i64 y252.1 x243))) fun y263 =>
 ifB (pEq 8 0) (
 none) (
 ifB (pLt (pSub .i64 y263.1 x243) (pSub .i64 x244 y263.1)) (
 bindO (rc y263.2.2 x243 y263.1 (pSub .i64 x245 1)) fun y264 =>
 kn ((pAdd .i64 y263.1 1), x244, (pSub .i64 x245 1), (pGe (pSub .i64 y263.1 x243) (pQuo .i64 (pSub .i64 x244 x243) 8)), y263.2.1, y264, ())) (
 bindO (rc y263.2.2 (pAdd .i64 y263.1 1) x244 (pSub .i64 x245 1)) fun y265 =>
 kn (x243, y263.1, (pSub .i64 x245 1), (pGe (pSub .i64 x244 y263.1) (pQuo .i64 (pSub .i64 x244 x243) 8)), y263.2.1, y265, ()))))) (
 bindO (slices_partitionOrdered_Sstring N y256.2 x243 x244 (pSub .i64 (pSub .i64 x244 1) (pSub .i64 y252.1 x243))) fun y266 =>
 ifB (pEq 8 0) (
 none) (
 ifB (pLt (pSub .i64 y266.1 x243) (pSub .i64 x244 y266.1)) (
 bindO (rc y266.2.2 x243 y266.1 (pSub .i64 x245 1)) fun y267 =>
 kn ((pAdd .i64 y266.1 1), x244, (pSub .i64 x245 1), (pGe (pSub .i64 y266.1 x243) (pQuo .i64 (pSub .i64 x244 x243) 8)), y266.2.1, y267, ())) (
 bindO (rc y266.2.2 (pAdd .i64 y266.1 1) x244 (pSub .i64 x245 1)) fun y268 =>
 kn (x243, y266.1, (pSub .i64 x245 1), (pGe (pSub .i64 x244 y266.1) (pQuo .i64 (pSub .i64 x244 x243) 8)), y266.2.1, y268, ())))))) (
 ifB (pGt x243 0) (
 bindO (idx y253 (pSub .i64 x243 1)) fun y269 =>
 bindO (idx y253 (pSub .i64 x243 1)) fun y270 =>
 bindO (idx y253 (pSub .i64 (pSub .i64 x244 1) (pSub .i64 y252.1 x243))) fun y271 =>
 bindO (idx y253 (pSub .i64 (pSub .i64 x244 1) (pSub .i64 y252.1 x243))) fun y272 =>
 bindO (cmp_Less_Sstring N y270 y272) fun y273 =>
 ifB (pNot y273) (
 bindO (slices_partitionEqualOrdered_Sstring N y253 x243 x244 (pSub .i64 (pSub .i64 x244 1) (pSub .i64 y252.1 x243))) fun y274 =>
 kn (y274.1, x244, (pSub .i64 x245 1), x246, x247, y274.2, ())) (
 bindO (slices_partitionOrdered_Sstring N y253 x243 x244 (pSub .i64 (pSub .i64 x244 1) (pSub .i64 y252.1 x243))) fun y275 =>
 ifB (pEq 8 0) (
 none) (
 ifB (pLt (pSub .i64 y275.1 x243) (pSub .i64 x244 y275.1)) (
 bindO (rc y275.2.2 x243 y275.1 (pSub .i64 x245 1)) fun y276 =>
 kn ((pAdd .i64 y275.1 1), x244, (pSub .i64 x245 1), (pGe (pSub .i64 y275.1 x243) (pQuo .i64 (pSub .i64 x244 x243) 8)), y275.2.1, y276, ())) (
 bindO (rc y275.2.2 (pAdd .i64 y275.1 1) x244 (pSub .i64 x245 1)) fun y277 =>
 kn (x243, y275.1, (pSub .i64 x245 1), (pGe (pSub .i64 x244 y275.1) (pQuo .i64 (pSub .i64 x244 x243) 8)), y275.2.1, y277, ()))))) (
 bindO (slices_partitionOrdered_Sstring N y253 x243 x244 (pSub .i64 (pSub .i64 x244 1) (pSub .i64 y252.1 x243))) fun y278 =>
 ifB (pEq 8 0) (
 none) (
 ifB (pLt (pSub .i64 y278.1 x243) (pSub .i64 x244 y278.1)) (
 bindO (rc y278.2.2 x243 y278.1 (pSub .i64 x245 1)) fun y279 =>
 kn ((pAdd .i64 y278.1 1), x244, (pSub .i64 x245 1), (pGe (pSub .i64 y278.1 x243) (pQuo .i64 (pSub .i64 x244 x243) 8)), y278.2.1, y279, ())) (
 bindO (rc y278.2.2 (pAdd .i64 y278.1 1) x244 (pSub .i64 x245 1)) fun y280 =>
 kn (x243, y278.1, (pSub .i64 x245 1), (pGe (pSub .i64 x244 y278.1) (pQuo .i64 (pSub .i64 x244 x243) 8)), y278.2.1, y280, ())))))) (
 bindO (
 ifB x246 (
 some x247) (
 some false)) fun y281 =>
 bindO (
 ifB y281 (
 some (pEq y252.2 1)) (
 some false)) fun y282 =>
 ifB y282 (
 bindO (slices_partialInsertionSortOrdered_Sstring N y251 x243 x244) fun y283 =>
 ifB y283.1 (
 kx (y283.2, ())) (
 ifB (pGt x243 0) (
 bindO (idx y283.2 (pSub .i64 x243 1)) fun y284 =>
 bindO (idx y283.2 (pSub .i64 x243 1)) fun y285 =>
 bindO (idx y283.2 y252.1) fun y286 =>
 bindO (idx y283.2 y252.1) fun y287 =>
 bindO (cmp_Less_Sstring N y285 y287) fun y288 =>
 ifB (pNot y288) (
 bindO (slices_partitionEqualOrdered_Sstring N y283.2 x243 x244 y252.1) fun y289 =>
 kn (y289.1, x244, (pSub .i64 x245 1), x246, x247, y289.2, ())) (
 bindO (slices_partitionOrdered_Sstring N y283.2 x243 x244 y252.1) fun y290 =>
 ifB (pEq 8 0) (
 none) (
 ifB (pLt (pSub .i64 y290.1 x243) (pSub .i64 x244 y290.1)) (
 bindO (rc y290.2.2 x243 y290.1 (pSub .i64 x245 1)) fun y291 =>
 kn ((pAdd .i64 y290.1 1), x244, (pSub .i64 x245 1), (pGe (pSub .i64 y290.1 x243) (pQuo .i64 (pSub .i64 x244 x243) 8)), y290.2.1, y291, ())) (
 bindO (rc y290.2.2 (pAdd .i64 y290.1 1) x244 (pSub .i64 x245 1)) fun y292 =>
 kn (x243, y290.1, (pSub .i64 x245 1), (pGe (pSub .i64 x244 y290.1) (pQuo .i64 (pSub .i64 x244 x243) 8)), y290.2.1, y292, ()))))) (
 bindO (slices_partitionOrdered_Sstring N y283.2 x243 x244 y252.1) fun y293 =>
 ifB (pEq 8 0) (
 none) (
 ifB (pLt (pSub .i64 y293.1 x243) (pSub .i64 x244 y293.1)) (
 bindO (rc y293.2.2 x243 y293.1 (pSub .i64 x245 1)) fun y294 =>
 kn ((pAdd .i64 y293.1 1), x244, (pSub .i64 x245 1), (pGe (pSub .i64 y293.1 x243) (pQuo .i64 (pSub .i64 x244 x243) 8)), y293.2.1, y294, ())) (
 bindO (rc y293.2.2 (pAdd .i64 y293.1 1) x244 (pSub .i64 x245 1)) fun y295 =>
 kn (x243, y293.1, (pSub .i64 x245 1), (pGe (pSub .i64 x244 y293.1) (pQuo .i64 (pSub .i64 x244 x243) 8)), y293.2.1, y295, ())))))) (
 ifB (pGt x243 0) (
 bindO (idx y251 (pSub .i64 x243 1)) fun y296 =>
 bindO (idx y251 (pSub .i64 x243 1)) fun y297 =>
 bindO (idx y251 y252.1) fun y298 =>
 bindO (idx y251 y252.1) fun y299 =>
 bindO (cmp_Less_Sstring N y297 y299) fun y300 =>
 ifB (pNot y300) (
 bindO (slices_partitionEqualOrdered_Sstring N y251 x243 x244 y252.1) fun y301 =>
 kn (y301.1, x244, (pSub .i64 x245 1), x246, x247, y301.2, ())) (
 bindO (slices_partitionOrdered_Sstring N y251 x243 x244 y252.1) fun y302 =>
 ifB (pEq 8 0) (
 none) (
 ifB (pLt (pSub .i64 y302.1 x243) (pSub .i64 x244 y302.1)) (
 bindO (rc y302.2.2 x243 y302.1 (pSub .i64 x245 1)) fun y303 =>
 kn ((pAdd .i64 y302.1 1), x244, (pSub .i64 x245 1), (pGe (pSub .i64 y302.1 x243) (pQuo .i64 (pSub .i64 x244 x243) 8)), y302.2.1, y303, ())) (
 bindO (rc y302.2.2 (pAdd .i64 y302.1 1) x244 (pSub .i64 x245 1)) fun y304 =>
 kn (x243, y302.1, (pSub .i64 x245 1), (pGe (pSub .i64 x244 y302.1) (pQuo .i64 (pSub .i64 x244 x243) 8)), y302.2.1, y304, ()))))) (
 bindO (slices_partitionOrdered_Sstring N y251 x243 x244 y252.1) fun y305 =>
 ifB (pEq 8 0) (
 none) (
 ifB (pLt (pSub .i64 y305.1 x243) (pSub .i64 x244 y305.1)) (
 bindO (rc y305.2.2 x243 y305.1 (pSub .i64 x245 1)) fun y306 =>
 kn ((pAdd .i64 y305.1 1), x244, (pSub .i64 x245 1), (pGe (pSub .i64 y305.1 x243) (pQuo .i64 (pSub .i64 x244 x243) 8)), y305.2.1, y306, ())) (
 bindO (rc y305.2.2 (pAdd .i64 y305.1 1) x244 (pSub .i64 x245 1)) fun y307 =>
 kn (x243, y305.1, (pSub .i64 x245 1), (pGe (pSub .i64 x244 y305.1) (pQuo .i64 (pSub .i64 x244 x243) 8)), y305.2.1, y307, ()))))))) (
 bindO (slices_choosePivotOrdered_Sstring N x248 x243 x244) fun y308 =>
 ifB (pEq y308.2 2) (
 bindO (slices_reverseRangeOrdered_Sstring N x248 x243 x244) fun y309 =>
 bindO (
 ifB x246 (
 some x247) (
 some false)) fun y310 =>
 bindO (
 ifB y310 (
 some (pEq 1 1)) (
 some false)) fun y311 =>
 ifB y311 (
 bindO (slices_partialInsertionSortOrdered_Sstring N y309 x243 x244) fun y312 =>
 ifB y312.1 (
 kx (y312.2, ())) (
 ifB (pGt x243 0) (
 bindO (idx y312.2 (pSub .i64 x243 1)) fun y313 =>
 bindO (idx y312.2 (pSub .i64 x243 1)) fun y314 =>
 bindO (idx y312.2 (pSub .i64 (pSub .i64 x244 1) (pSub .i64 y308.1 x243))) fun y315 =>
 bindO (idx y312.2 (pSub .i64 (pSub .i64 x244 1) (pSub .i64 y308.1 x243))) fun y316 =>
 bindO (cmp_Less_Sstring N y314 y316) fun y317 =>
 ifB (pNot y317) (
 bindO (slices_partitionEqualOrdered_Sstring N y312.2 x243 x244 (pSub .i64 (pSub .i64 x244 1) (pSub .i64 y308.1 x243))) fun y318 =>
 kn (y318.1, x244, x245, x246, x247, y318.2, ())) (
 bindO (slices_partitionOrdered_Sstring N y312.2 x243 x244 (pSub .i64 (pSub .i64 x244 1) (pSub .i64 y308.1 x243))) fun y319 =>
 ifB (pEq 8 0) (
 none) (
 ifB (pLt (pSub .i64 y319.1 x243) (pSub .i64 x244 y319.1)) (
 bindO (rc y319.2.2 x243 y319.1 x245) fun y320 =>
 kn ((pAdd .i64 y319.1 1), x244, x245, (pGe (pSub .i64 y319.1 x243) (pQuo .i64 (pSub .i64 x244 x243) 8)), y319.2.1, y320, ())) (
 bindO (rc y319.2.2 (pAdd .i64 y319.1 1) x244 x245) fun y321 =>
 kn (x243, y319.1, x245, (pGe (pSub .i64 x244 y319.1) (pQuo .i64 (pSub .i64 x244 x243) 8)), y319.2.1, y321, ()))))) (
 bindO (slices_partitionOrdered_Sstring N y312.2 x243 x244 (pSub .i64 (pSub .i64 x244 1) (pSub .i64 y308.1 x243))) fun y322 =>
 ifB (pEq 8 0) (
 none) (
 ifB (pLt (pSub .i64 y322.1 x243) (pSub .i64 x244 y322.1)) (
 bindO (rc y322.2.2 x243 y322.1 x245) fun y323 =>
 kn ((pAdd .i64 y322.1 1), x244, x245, (pGe (pSub .i64 y322.1 x243) (pQuo .i64 (pSub .i64 x244 x243) 8)), y322.2.1, y323, ())) (
 bindO (rc y322.2.2 (pAdd .i64 y322.1 1) x244 x245) fun y324 =>
 kn (x243, y322.1, x245, (pGe (pSub .i64 x244 y322.1) (pQuo .i64 (pSub .i64 x244 x243) 8)), y322.2.1, y324, ())))))) (
 ifB (pGt x243 0) (
 bindO (idx y309 (pSub .i64 x243 1)) fun y325 =>
 bindO (idx y309 (pSub .i64 x243 1)) fun y326 =>
 bindO (idx y309 (pSub .i64 (pSub .i64 x244 1) (pSub .i64 y308.1 x243))) fun y327 =>
 bindO (idx y309 (pSub .i64 (pSub .i64 x244 1) (pSub .i64 y308.1 x243))) fun y328 =>
 bindO (cmp_Less_Sstring N y326 y328) fun y329 =>
 ifB (pNot y329) (
 bindO (slices_partitionEqualOrdered_Sstring N y309 x243 x244 (pSub .i64 (pSub .i64 x244 1) (pSub .i64 y308.1 x243))) fun y330 =>
 kn (y330.1, x244, x245, x246, x247, y330.2, ())) (
 bindO (slices_partitionOrdered_Sstring N y309 x243 x244 (pSub .i64 (pSub .i64 x244 1) (pSub .i64 y308.1 x243))) fun y331 =>
 ifB (pEq 8 0) (
 none) (
 ifB (pLt (pSub .i64 y331.1 x243) (pSub .i64 x244 y331.1)) (
 bindO (rc y331.2.2 x243 y331.1 x245) fun y332 =>
 kn ((pAdd .i64 y331.1 1), x244, x245, (pGe (pSub .i64 y331.1 x243) (pQuo .i64 (pSub .i64 x244 x243) 8)), y331.2.1, y332, ())) (
 bindO (rc y331.2.2 (pAdd .i64 y331.1 1) x244 x245) fun y333 =>
 kn (x243, y331.1, x245, (pGe (pSub .i64 x244 y331.1) (pQuo .i64 (pSub .i64 x244 x243) 8)), y331.2.1, y333, ()))))) (
 bindO (slices_partitionOrdered_Sstring N y309 x243 x244 (pSub .i64 (pSub .i64 x244 1) (pSub .i64 y308.1 x243))) fun y334 =>
 ifB (pEq 8 0) (
 none) (
 ifB (pLt (pSub .i64 y334.1 x243) (pSub .i64 x244 y334.1)) (
 bindO (rc y334.2.2 x243 y334.1 x245) fun y335 =>
 kn ((pAdd .i64 y334.1 1), x244, x245, (pGe (pSub .i64 y334.1 x243) (pQuo .i64 (pSub .i64 x244 x243) 8)), y334.2.1, y335, ())) (
 bindO (rc y334.2.2 (pAdd .i64 y334.1 1) x244 x245) fun y336 =>
 kn (x243, y334.1, x245, (pGe (pSub .i64 x244 y334.1) (pQuo .i64 (pSub .i64 x244 x243) 8)), y334.2.1, y336, ())))))) (
 bindO (
 ifB x246 (
 some x247) (
 some false)) fun y337 =>
 bindO (
 ifB y337 (
 some (pEq y308.2 1)) (
 some false)) fun y338 =>
 ifB y338 (
 bindO (slices_partialInsertionSortOrdered_Sstring N x248 x243 x244) fun y339 =>
 ifB y339.1 (
 kx (y339.2, ())) (
 ifB (pGt x243 0) (
 bindO (idx y339.2 (pSub .i64 x243 1)) fun y340 =>
 bindO (idx y339.2 (pSub .i64 x243 1)) fun y341 =>
 bindO (idx y339.2 y308.1) fun y342 =>
 bindO (idx y339.2 y308.1) fun y343 =>
 bindO (cmp_Less_Sstring N y341 y343) fun y344 =>
 ifB (pNot y344) (
 bindO (slices_partitionEqualOrdered_Sstring N y339.2 x243 x244 y308.1) fun y345 =>
 kn (y345.1, x244, x245, x246, x247, y345.2, ())) (
 bindO (slices_partitionOrdered_Sstring N y339.2 x243 x244 y308.1) fun y346 =>
 ifB (pEq 8 0) (
 none) (
 ifB (pLt (pSub .i64 y346.1 x243) (pSub .i64 x244 y346.1)) (
 bindO (rc y346.2.2 x243 y346.1 x245) fun y347 =>
 kn ((pAdd .i64 y346.1 1), x244, x245, (pGe (pSub .i64 y346.1 x243) (pQuo .i64 (pSub .i64 x244 x243) 8)), y346.2.1, y347, ())) (
 bindO (rc y346.2.2 (pAdd .i64 y346.1 1) x244 x245) fun y348 =>
 kn (x243, y346.1, x245, (pGe (pSub .i64 x244 y346.1) (pQuo .i64 (pSub .i64 x244 x243) 8)), y346.2.1, y348, ()))))) (
 bindO (slices_partitionOrdered_Sstring N y339.2 x243 x244 y308.1) fun y349 =>
 ifB (pEq 8 0) (
 none) (
 ifB (pLt (pSub .i64 y349.1 x243) (pSub .i64 x244 y349.1)) (
 bindO (rc y349.2.2 x243 y349.1 x245) fun y350 =>
 kn ((pAdd .i64 y349.1 1), x244, x245, (pGe (pSub .i64 y349.1 x243) (pQuo .i64 (pSub .i64 x244 x243) 8)), y349.2.1, y350, ())) (
 bindO (rc y349.2.2 (pAdd .i64 y349.1 1) x244 x245) fun y351 =>
 kn (x243, y349.1, x245, (pGe (pSub .i64 x244 y349.1) (pQuo .i64 (pSub .i64 x244 x243) 8)), y349.2.1, y351, ())))))) (
 ifB (pGt x243 0) (
 bindO (idx x248 (pSub .i64 x243 1)) fun y352 =>
 bindO (idx x248 (pSub .i64 x243 1)) fun y353 =>
 bindO (idx x248 y308.1) fun y354 =>
 bindO (idx x248 y308.1) fun y355 =>
 bindO (cmp_Less_Sstring N y353 y355) fun y356 =>
 ifB (pNot y356) (
 bindO (slices_partitionEqualOrdered_Sstring N x248 x243 x244 y308.1) fun y357 =>
 kn (y357.1, x244, x245, x246, x247, y357.2, ())) (
 bindO (slices_partitionOrdered_Sstring N x248 x243 x244 y308.1) fun y358 =>
 ifB (pEq 8 0) (
 none) (
 ifB (pLt (pSub .i64 y358.1 x243) (pSub .i64 x244 y358.1)) (
 bindO (rc y358.2.2 x243 y358.1 x245) fun y359 =>
 kn ((pAdd .i64 y358.1 1), x244, x245, (pGe (pSub .i64 y358.1 x243) (pQuo .i64 (pSub .i64 x244 x243) 8)), y358.2.1, y359, ())) (
 bindO (rc y358.2.2 (pAdd .i64 y358.1 1) x244 x245) fun y360 =>
 kn (x243, y358.1, x245, (pGe (pSub .i64 x244 y358.1) (pQuo .i64 (pSub .i64 x244 x243) 8)), y358.2.1, y360, ()))))) (
 bindO (slices_partitionOrdered_Sstring N x248 x243 x244 y308.1) fun y361 =>
 ifB (pEq 8 0) (
 none) (
 ifB (pLt (pSub .i64 y361.1 x243) (pSub .i64 x244 y361.1)) (
 bindO (rc y361.2.2 x243 y361.1 x245) fun y362 =>
 kn ((pAdd .i64 y361.1 1), x244, x245, (pGe (pSub .i64 y361.1 x243) (pQuo .i64 (pSub .i64 x244 x243) 8)), y361.2.1, y362, ())) (
 bindO (rc y361.2.2 (pAdd .i64 y361.1 1) x244 x245) fun y363 =>
 kn (x243, y361.1, x245, (pGe (pSub .i64 x244 y361.1) (pQuo .i64 (pSub .i64 x244 x243) 8)), y361.2.1, y363, ())))))))))
def slices_pdqsortOrdered_Sstring.st (N : Nat) (rc : (List (ByteArray)) → (Int) → (Int) → (Int) → Option (List (ByteArray))) (a0 : List (ByteArray)) (a1 : Int) (a2 : Int) (a3 : Int) : Option (List ByteArray) :=
 loopP (slices_pdqsortOrdered_Sstring.l2 N rc) N (a1, a2, a3, true, true, a0, ()) (
 fun d =>
 let x364 := d.1;
 some x364)
def slices_pdqsortOrdered_Sstring (N : Nat) : (List (ByteArray)) → (Int) → (Int) → (Int) → Option (List (ByteArray)) := Nat.rec (motive := fun _ => (List (ByteArray)) → (Int) → (Int) → (Int) → Option (List (ByteArray))) (fun _ _ _ _ => none) (fun n rc => slices_pdqsortOrdered_Sstring.st n rc) N
def slices_Sort_Sstring_string (N : Nat) (a0 : List (ByteArray)) : Option (List ByteArray) :=
 bindO (math_bits_Len N (pConv .u64 (pLen a0))) fun y2 =>
 bindO (slices_pdqsortOrdered_Sstring N a0 0 (pLen a0) y2) fun y3 =>
 some y3
def impl_EdNames (N : Nat) : Option (List ByteArray) :=
 bindO (impl_moves N) fun y2 =>
 ifB (pFit y2 [(ByteArray.mk #[107, 105, 108, 108, 45, 108, 105, 110, 101]), (ByteArray.mk #[107, 105, 108, 108, 45, 119, 111, 114, 100]), (ByteArray.mk #[107, 105, 108, 108, 45, 98, 97, 99, 107]), (ByteArray.mk #[107, 105, 108, 108, 45, 114, 101, 103, 105, 111, 110]), (ByteArray.mk #[99, 111, 112, 121, 45, 114, 101, 103, 105, 111, 110]), (ByteArray.mk #[115, 101, 116, 45, 109, 97, 114, 107]), (ByteArray.mk #[121, 97, 110, 107]), (ByteArray.mk #[121, 97, 110, 107, 45, 112, 111, 112]), (ByteArray.mk #[100, 101, 108, 101, 116, 101]), (ByteArray.mk #[100, 101, 108, 101, 116, 101, 45, 98, 97, 99, 107]), (ByteArray.mk #[110, 101, 119, 108, 105, 110, 101]), (ByteArray.mk #[117, 110, 100, 111]), (ByteArray.mk #[114, 101, 100, 111]), (ByteArray.mk #[117, 112, 45, 104, 105, 115, 116, 111, 114, 121]), (ByteArray.mk #[100, 111, 119, 110, 45, 104, 105, 115, 116, 111, 114, 121]), (ByteArray.mk #[99, 111, 109, 112, 108, 101, 116, 101]), (ByteArray.mk #[97, 99, 99, 101, 112, 116]), (ByteArray.mk #[118, 105, 45, 99, 111, 109, 109, 97, 110, 100]), (ByteArray.mk #[118, 105, 45, 105, 110, 115, 101, 114, 116]), (ByteArray.mk #[98, 101, 108, 108])]) (
 bindO (slices_Sort_Sstring_string N (pApp y2 [(ByteArray.mk #[107, 105, 108, 108, 45, 108, 105, 110, 101]), (ByteArray.mk #[107, 105, 108, 108, 45, 119, 111, 114, 100]), (ByteArray.mk #[107, 105, 108, 108, 45, 98, 97, 99, 107]), (ByteArray.mk #[107, 105, 108, 108, 45, 114, 101, 103, 105, 111, 110]), (ByteArray.mk #[99, 111, 112, 121, 45, 114, 101, 103, 105, 111, 110]), (ByteArray.mk #[115, 101, 116, 45, 109, 97, 114, 107]), (ByteArray.mk #[121, 97, 110, 107]), (ByteArray.mk #[121, 97, 110, 107, 45, 112, 111, 112]), (ByteArray.mk #[100, 101, 108, 101, 116, 101]), (ByteArray.mk #[100, 101, 108, 101, 116, 101, 45, 98, 97, 99, 107]), (ByteArray.mk #[110, 101, 119, 108, 105, 110, 101]), (ByteArray.mk #[117, 110, 100, 111]), (ByteArray.mk #[114, 101, 100, 111]), (ByteArray.mk #[117, 112, 45, 104, 105, 115, 116, 111, 114, 121]), (ByteArray.mk #[100, 111, 119, 110, 45, 104, 105, 115, 116, 111, 114, 121]), (ByteArray.mk #[99, 111, 109, 112, 108, 101, 116, 101]), (ByteArray.mk #[97, 99, 99, 101, 112, 116]), (ByteArray.mk #[118, 105, 45, 99, 111, 109, 109, 97, 110, 100]), (ByteArray.mk #[118, 105, 45, 105, 110, 115, 101, 114, 116]), (ByteArray.mk #[98, 101, 108, 108])])) fun y3 =>
 some y3) (
 none)
def laws_eqStringS.l4 {R : Type} (N : Nat) (d : List ByteArray × List ByteArray × Int × Unit) (kn : List ByteArray × List ByteArray × Int × Unit → Option R) (kx : (Unit) ⊕ (Bool × Unit) → Option R) : Option R :=
 let x13 := d.1;
 let x14 := d.2.1;
 let x15 := d.2.2.1;
 ifB (pLt x15 (pLen x13)) (
 bindO (idx x13 x15) fun y16 =>
 bindO (idx x14 x15) fun y17 =>
 ifB (pNot (pSEq y16 y17)) (
 kx (.inr (false, ()))) (
 kn (x13, x14, (pAdd .i64 x15 1), ()))) (
 kx (.inl (())))
def laws_eqStringS (N : Nat) (a0 : List (ByteArray)) (a1 : List (ByteArray)) : Option (Bool) :=
 ifB (pNe (pLen a0) (pLen a1)) (
 some false) (
 loopP (laws_eqStringS.l4 N) N (a0, a1, 0, ()) (
 onSum (fun d =>
 some true) (
 fun d =>
 let x18 := d.1;
 some x18)))
def laws_markStringS.l2 {R : Type} (N : Nat) (d : Int × Int × List ByteArray × Unit) (kn : Int × Int × List ByteArray × Unit → Option R) (kx : Int × List ByteArray × Unit → Option R) : Option R :=
 let x17 := d.1;
 let x18 := d.2.1;
 let x19 := d.2.2.1;
 ifB (pLt x18 (pLen x19)) (
 bindO (laws_markText N x17) fun y20 =>
 bindO (idx x19 x18) fun y21 =>
 bindO (idx x19 x18) fun y22 =>
 kn ((pAdd .i64 x17 1), (pAdd .i64 x18 1), (pSet x19 x18 y20), ())) (
 kx (x17, x19, ()))
def laws_markStringS (N : Nat) (a0 : List (ByteArray)) (a1 : Int) : Option (Int × List ByteArray) :=
 loopP (laws_markStringS.l2 N) N (a1, 0, a0, ()) (
 fun d =>
 let x23 := d.1;
 let x24 := d.2.1;
 some (x23, x24))
def laws_heldStringS.l2 {R : Type} (N : Nat) (d : List ByteArray × Int × Int × Unit) (kn : List ByteArray × Int × Int × Unit → Option R) (kx : (Int × Unit) ⊕ (Int × Unit) → Option R) : Option R :=
 let x14 := d.1;
 let x15 := d.2.1;
 let x16 := d.2.2.1;
 ifB (pLt x16 (pLen x14)) (
 bindO (idx x14 x16) fun y17 =>
 bindO (laws_markText N x15) fun y18 =>
 ifB (pNot (pSEq y17 y18)) (
 kx (.inr ((-1), ()))) (
 kn (x14, (pAdd .i64 x15 1), (pAdd .i64 x16 1), ()))) (
 kx (.inl (x15, ())))
end Go.AE.F
end
