/- Functions as they are printed out of the program: plain Lean, nothing is claimed here. -/
import Derived.Test.YtfddioheppeddaaA5
namespace Go.AE.F
open Go.AE
def spec_l01Point (N : Nat) (a0 : Int) : Option (Bool) :=
  bindO (
    ifB (pGe a0 0) (
      some (pLe a0 1114111)) (
      some false)) fun y3 =>
  bindO (
    ifB y3 (
      bindO (
        ifB (pGe a0 55296) (
          some (pLe a0 57343)) (
          some false)) fun y5 =>
      some (pNot y5)) (
      some false)) fun y4 =>
  some y4

def impl_size_Sint64 (N : Nat) (a0 : List (Int)) : Option (Int) :=
  some (pLen a0)

def impl_within (N : Nat) (a0 : Int) (a1 : Int) (a2 : Int) : Option (Bool) :=
  bindO (
    ifB (pLe a1 a0) (
      some (pLe a0 a2)) (
      some false)) fun y1 =>
  some y1

def impl_isPoint (N : Nat) (a0 : Int) : Option (Bool) :=
  bindO (impl_within N a0 0 1114111) fun y3 =>
  bindO (
    ifB y3 (
      bindO (impl_within N a0 55296 57343) fun y5 =>
      some (pNot y5)) (
      some false)) fun y4 =>
  some y4

def spec_PointsRight.l4 {R : Type} (N : Nat) (d : List Int × Int × Unit) (kn : List Int × Int × Unit → Option R) (kx : (Unit) ⊕ (Bool × Unit) → Option R) : Option R :=
  let x31 := d.1;
  let x32 := d.2.1;
    ifB (pLt x32 (pLen x31)) (
      bindO (idx x31 x32) fun y35 =>
      bindO (spec_l01Point N y35) fun y36 =>
      ifB (pNot y36) (
        kx (.inr (false, ()))) (
        kn (x31, (pAdd Go.IntKind.i64 x32 1), ()))) (
      kx (.inl (())))
def spec_PointsRight (N : Nat) (a0 : List (Int)) : Option (Bool) :=
  ifB (pGt (pLen a0) 300) (
    some false) (
    loopP (spec_PointsRight.l4 N) N (a0, 0, ()) (
      onSum (fun d =>
        some true) (
      fun d =>
      let x37 := d.1;
      some x37)))

def spec_BufRight (N : Nat) (a0 : List (Int) × Int × Int × Unit) : Option (Bool) :=
  bindO (spec_PointsRight N a0.1) fun y5 =>
  bindO (
    ifB y5 (
      some (pGe a0.2.1 0)) (
      some false)) fun y6 =>
  bindO (
    ifB y6 (
      some (pLe a0.2.1 (pLen a0.1))) (
      some false)) fun y7 =>
  bindO (
    ifB y7 (
      some (pGe a0.2.2.1 0)) (
      some false)) fun y8 =>
  bindO (
    ifB y8 (
      some (pLe a0.2.2.1 (pLen a0.1))) (
      some false)) fun y9 =>
  some y9

def spec_l01Copy (N : Nat) (a0 : List (Int)) : Option (List Int) :=
  ifB (pFit [] a0) (
    some (pApp [] a0)) (
    none)

def impl_PointsRight_c1 (N : Nat) (a0 : Int) : Option (Bool) :=
  bindO (impl_isPoint N a0) fun y1 =>
  some (pNot y1)

def slices_IndexFunc_Sint64_int64__impl_PointsRight_c1.l2 {R : Type} (N : Nat) (d : List Int × Int × Int × Unit) (kn : List Int × Int × Int × Unit → Option R) (kx : (Unit) ⊕ (Int × Unit) → Option R) : Option R :=
  let x36 := d.1;
  let x37 := d.2.1;
  let x38 := d.2.2.1;
    ifB (pLt x38 x37) (
      bindO (idx x36 x38) fun y41 =>
      bindO (impl_PointsRight_c1 N y41) fun y42 =>
      ifB y42 (
        kx (.inr (x38, ()))) (
        kn (x36, x37, (pAdd Go.IntKind.i64 x38 1), ()))) (
      kx (.inl (())))
def slices_IndexFunc_Sint64_int64__impl_PointsRight_c1 (N : Nat) (a0 : List (Int)) : Option (Int) :=
  loopP (slices_IndexFunc_Sint64_int64__impl_PointsRight_c1.l2 N) N (a0, (pLen a0), 0, ()) (
    onSum (fun d =>
      some (-1)) (
    fun d =>
    let x43 := d.1;
    some x43))

def slices_ContainsFunc_Sint64_int64__impl_PointsRight_c1 (N : Nat) (a0 : List (Int)) : Option (Bool) :=
  bindO (slices_IndexFunc_Sint64_int64__impl_PointsRight_c1 N a0) fun y1 =>
  some (pGe y1 0)

def impl_PointsRight (N : Nat) (a0 : List (Int)) : Option (Bool) :=
  bindO (
    ifB (pLe (pLen a0) 300) (
      bindO (slices_ContainsFunc_Sint64_int64__impl_PointsRight_c1 N a0) fun y3 =>
      some (pNot y3)) (
      some false)) fun y2 =>
  some y2

def impl_Buf_isPlace (N : Nat) (a0 : List (Int) × Int × Int × Unit) (a1 : Int) : Option (Bool) :=
  bindO (impl_size_Sint64 N a0.1) fun y2 =>
  bindO (impl_within N a1 0 y2) fun y3 =>
  some y3

def impl_BufRight (N : Nat) (a0 : List (Int) × Int × Int × Unit) : Option (Bool) :=
  bindO (impl_PointsRight N a0.1) fun y5 =>
  bindO (
    ifB y5 (
      bindO (impl_Buf_isPlace N a0 a0.2.1) fun y7 =>
      some y7) (
      some false)) fun y6 =>
  bindO (
    ifB y6 (
      bindO (impl_Buf_isPlace N a0 a0.2.2.1) fun y9 =>
      some y9) (
      some false)) fun y8 =>
  some y8

def impl_isMany (N : Nat) (a0 : Int) : Option (Bool) :=
  some (pGt a0 400)

end Go.AE.F
namespace Go.AE.F
open Go.AE
noncomputable def slices_Clone_Sint64_int64.g {R : Type} (N : Nat) (a0 : List (Int)) (k : List Int → Option R) : Option R :=
  ifB (pEq (pLen a0) 0) (
    same (
      k []) (
      ifB (pFit [] a0) (
        k (pApp [] a0)) (
        none))) (
    ifB (pFit [] a0) (
      k (pApp [] a0)) (
      none))
noncomputable def slices_Clone_Sint64_int64 (N : Nat) (a0 : List (Int)) : Option (List Int) := slices_Clone_Sint64_int64.g N a0 some

end Go.AE.F
namespace Go.AE.F
open Go.AE
noncomputable def spec_l01Source.l3 {R : Type} (N : Nat) (d : List Int × Int × (List Int × Int × Int × Int × Unit) × Unit) (kn : List Int × Int × (List Int × Int × Int × Int × Unit) × Unit → Option R) (kx : List Int × (List Int × Int × Int × Int × Unit) × Unit → Option R) : Option R :=
  let x13 := d.1;
  let x14 := d.2.1;
  let x15 := d.2.2.1;
    bindO (
      ifB (pLt x14 (pLen x13)) (
        some (pLt x14 64)) (
        some false)) fun y16 =>
    ifB y16 (
      bindO (idx x13 x14) fun y17 =>
      kn (x13, (pAdd Go.IntKind.i64 x14 1), (x15.1, (x15.2.1, ((pMul Go.IntKind.u64 (pXor Go.IntKind.u64 x15.2.2.1 (pConv Go.IntKind.u64 y17)) 1099511628211), x15.2.2.2))), ())) (
      kx (x13, x15, ()))
noncomputable def spec_l01Source (N : Nat) (a0 : List (Int)) : Option (List Int × Int × Int × Int × Unit) :=
  loopP (spec_l01Source.l3 N) N (a0, 0, (a0, (0, (88172645463325252, (0, ())))), ()) (
    fun d =>
    let x18 := d.1;
    let x19 := d.2.1;
    ifB (pEq 20 0) (
      none) (
      ifB (pGt (pQuo Go.IntKind.i64 (pLen x18) 20) 12) (
        some (x19.1, (x19.2.1, (x19.2.2.1, (12, x19.2.2.2.2))))) (
        some (x19.1, (x19.2.1, (x19.2.2.1, ((pQuo Go.IntKind.i64 (pLen x18) 20), x19.2.2.2.2)))))))

noncomputable def spec_l01Src_n (N : Nat) (a0 : List (Int) × Int × Int × Int × Unit) (a1 : Int) : Option (Int × List Int × Int × Int × Int × Unit) :=
  ifB (pLe a1 1) (
    some (0, a0)) (
    ifB (pLt a0.2.1 (pLen a0.1)) (
      bindO (idx a0.1 a0.2.1) fun y1 =>
      ifB (pLt 13 0) (
        none) (
        ifB (pLt 7 0) (
          none) (
          ifB (pLt 17 0) (
            none) (
            ifB (pLt 20 0) (
              none) (
              ifB (pEq (pConv Go.IntKind.u64 a1) 0) (
                none) (
                some ((pConv Go.IntKind.i64 (pRem (pAdd Go.IntKind.u64 (pConv Go.IntKind.u64 y1) (pShr Go.IntKind.u64 (pXor Go.IntKind.u64 (pXor Go.IntKind.u64 (pXor Go.IntKind.u64 a0.2.2.1 (pShl Go.IntKind.u64 a0.2.2.1 13)) (pShr Go.IntKind.u64 (pXor Go.IntKind.u64 a0.2.2.1 (pShl Go.IntKind.u64 a0.2.2.1 13)) 7)) (pShl Go.IntKind.u64 (pXor Go.IntKind.u64 (pXor Go.IntKind.u64 a0.2.2.1 (pShl Go.IntKind.u64 a0.2.2.1 13)) (pShr Go.IntKind.u64 (pXor Go.IntKind.u64 a0.2.2.1 (pShl Go.IntKind.u64 a0.2.2.1 13)) 7)) 17)) 20)) (pConv Go.IntKind.u64 a1))), (a0.1, ((pAdd Go.IntKind.i64 a0.2.1 1), ((pXor Go.IntKind.u64 (pXor Go.IntKind.u64 (pXor Go.IntKind.u64 a0.2.2.1 (pShl Go.IntKind.u64 a0.2.2.1 13)) (pShr Go.IntKind.u64 (pXor Go.IntKind.u64 a0.2.2.1 (pShl Go.IntKind.u64 a0.2.2.1 13)) 7)) (pShl Go.IntKind.u64 (pXor Go.IntKind.u64 (pXor Go.IntKind.u64 a0.2.2.1 (pShl Go.IntKind.u64 a0.2.2.1 13)) (pShr Go.IntKind.u64 (pXor Go.IntKind.u64 a0.2.2.1 (pShl Go.IntKind.u64 a0.2.2.1 13)) 7)) 17)), a0.2.2.2)))))))))) (
      ifB (pLt 13 0) (
        none) (
        ifB (pLt 7 0) (
          none) (
          ifB (pLt 17 0) (
            none) (
            ifB (pLt 20 0) (
              none) (
              ifB (pEq (pConv Go.IntKind.u64 a1) 0) (
                none) (
                some ((pConv Go.IntKind.i64 (pRem (pAdd Go.IntKind.u64 0 (pShr Go.IntKind.u64 (pXor Go.IntKind.u64 (pXor Go.IntKind.u64 (pXor Go.IntKind.u64 a0.2.2.1 (pShl Go.IntKind.u64 a0.2.2.1 13)) (pShr Go.IntKind.u64 (pXor Go.IntKind.u64 a0.2.2.1 (pShl Go.IntKind.u64 a0.2.2.1 13)) 7)) (pShl Go.IntKind.u64 (pXor Go.IntKind.u64 (pXor Go.IntKind.u64 a0.2.2.1 (pShl Go.IntKind.u64 a0.2.2.1 13)) (pShr Go.IntKind.u64 (pXor Go.IntKind.u64 a0.2.2.1 (pShl Go.IntKind.u64 a0.2.2.1 13)) 7)) 17)) 20)) (pConv Go.IntKind.u64 a1))), (a0.1, (a0.2.1, ((pXor Go.IntKind.u64 (pXor Go.IntKind.u64 (pXor Go.IntKind.u64 a0.2.2.1 (pShl Go.IntKind.u64 a0.2.2.1 13)) (pShr Go.IntKind.u64 (pXor Go.IntKind.u64 a0.2.2.1 (pShl Go.IntKind.u64 a0.2.2.1 13)) 7)) (pShl Go.IntKind.u64 (pXor Go.IntKind.u64 (pXor Go.IntKind.u64 a0.2.2.1 (pShl Go.IntKind.u64 a0.2.2.1 13)) (pShr Go.IntKind.u64 (pXor Go.IntKind.u64 a0.2.2.1 (pShl Go.IntKind.u64 a0.2.2.1 13)) 7)) 17)), a0.2.2.2)))))))))))

noncomputable def spec_l01Src_one (N : Nat) (a0 : List (Int) × Int × Int × Int × Unit) (a1 : Int) : Option (Bool × List Int × Int × Int × Int × Unit) :=
  bindO (spec_l01Src_n N a0 a1) fun y1 =>
  some ((pEq y1.1 0), y1.2)

noncomputable def laws_lwCopy (N : Nat) (a0 : List (Int)) : Option (List Int) :=
  ifB (pFit [] a0) (
    some (pApp [] a0)) (
    none)

noncomputable def laws_lwAll.l3 {R : Type} (N : Nat) (d : List (List Int) × Int × List (List Int) × Unit) (kn : List (List Int) × Int × List (List Int) × Unit → Option R) (kx : List (List Int) × Unit → Option R) : Option R :=
  let x13 := d.1;
  let x14 := d.2.1;
  let x15 := d.2.2.1;
    ifB (pLt x14 (pLen x13)) (
      bindO (idx x13 x14) fun y16 =>
      bindO (laws_lwCopy N y16) fun y17 =>
      ifB (pFit x15 [y17]) (
        kn (x13, (pAdd Go.IntKind.i64 x14 1), (pApp x15 [y17]), ())) (
        none)) (
      kx (x15, ()))
noncomputable def laws_lwAll (N : Nat) (a0 : List (List (Int))) : Option (List (List Int)) :=
  loopP (laws_lwAll.l3 N) N (a0, 0, [], ()) (
    fun d =>
    let x18 := d.1;
    some x18)

noncomputable def laws_lwSame.l4 {R : Type} (N : Nat) (d : List Int × List Int × Int × Unit) (kn : List Int × List Int × Int × Unit → Option R) (kx : (Unit) ⊕ (Bool × Unit) → Option R) : Option R :=
  let x13 := d.1;
  let x14 := d.2.1;
  let x15 := d.2.2.1;
    ifB (pLt x15 (pLen x13)) (
      bindO (idx x13 x15) fun y16 =>
      bindO (idx x14 x15) fun y17 =>
      ifB (pNe y16 y17) (
        kx (.inr (false, ()))) (
        kn (x13, x14, (pAdd Go.IntKind.i64 x15 1), ()))) (
      kx (.inl (())))
noncomputable def laws_lwSame (N : Nat) (a0 : List (Int)) (a1 : List (Int)) : Option (Bool) :=
  ifB (pNe (pLen a0) (pLen a1)) (
    some false) (
    loopP (laws_lwSame.l4 N) N (a0, a1, 0, ()) (
      onSum (fun d =>
        some true) (
      fun d =>
      let x18 := d.1;
      some x18)))

end Go.AE.F
namespace Go.AE.F
open Go.AE
noncomputable def spec_l01Src_point (N : Nat) (a0 : List (Int) × Int × Int × Int × Unit) : Option (Int × List Int × Int × Int × Int × Unit) :=
  bindO (spec_l01Src_n N a0 14) fun y15 =>
  ifB (pEq y15.1 0) (
    some (32, y15.2)) (
    ifB (pEq y15.1 1) (
      some (10, y15.2)) (
      ifB (pEq y15.1 2) (
        bindO (spec_l01Src_n N y15.2 5) fun y16 =>
        bindO (idx ([0, 9, 27, 31, 127] : List Int) y16.1) fun y17 =>
        bindO (idx ([0, 9, 27, 31, 127] : List Int) y16.1) fun y18 =>
        some (y18, y16.2)) (
        ifB (pEq y15.1 3) (
          bindO (spec_l01Src_n N y15.2 20) fun y19 =>
          bindO (idx ([768, 879, 880, 4352, 4447, 4448, 11903, 11904, 42191, 42192, 44032, 55203, 63744, 64255, 65281, 65376, 65377, 127744, 129791, 129792] : List Int) y19.1) fun y20 =>
          bindO (idx ([768, 879, 880, 4352, 4447, 4448, 11903, 11904, 42191, 42192, 44032, 55203, 63744, 64255, 65281, 65376, 65377, 127744, 129791, 129792] : List Int) y19.1) fun y21 =>
          some (y21, y19.2)) (
          ifB (pEq y15.1 4) (
            bindO (spec_l01Src_n N y15.2 8) fun y22 =>
            bindO (idx ([233, 960, 8364, 65533, 1114111, 65535, 55295, 57344] : List Int) y22.1) fun y23 =>
            bindO (idx ([233, 960, 8364, 65533, 1114111, 65535, 55295, 57344] : List Int) y22.1) fun y24 =>
            some (y24, y22.2)) (
            ifB (pEq y15.1 5) (
              bindO (spec_l01Src_n N y15.2 5) fun y25 =>
              bindO (idx ([46, 44, 45, 40, 36] : List Int) y25.1) fun y26 =>
              bindO (idx ([46, 44, 45, 40, 36] : List Int) y25.1) fun y27 =>
              some (y27, y25.2)) (
              ifB (pEq y15.1 6) (
                bindO (spec_l01Src_n N y15.2 10) fun y28 =>
                some ((pAdd Go.IntKind.i64 48 y28.1), y28.2)) (
                bindO (spec_l01Src_n N y15.2 6) fun y29 =>
                some ((pAdd Go.IntKind.i64 97 y29.1), y29.2))))))))

noncomputable def spec_l01Src_points.l2 {R : Type} (N : Nat) (d : Int × (List Int × Int × Int × Int × Unit) × List Int × Unit) (kn : Int × (List Int × Int × Int × Int × Unit) × List Int × Unit → Option R) (kx : (List Int × Int × Int × Int × Unit) × List Int × Unit → Option R) : Option R :=
  let x13 := d.1;
  let x14 := d.2.1;
  let x15 := d.2.2.1;
    ifB (pGt x13 0) (
      bindO (spec_l01Src_point N x14) fun y16 =>
      ifB (pFit x15 [y16.1]) (
        kn ((pSub Go.IntKind.i64 x13 1), y16.2, (pApp x15 [y16.1]), ())) (
        none)) (
      kx (x14, x15, ()))
noncomputable def spec_l01Src_points (N : Nat) (a0 : List (Int) × Int × Int × Int × Unit) (a1 : Int) : Option (List Int × List Int × Int × Int × Int × Unit) :=
  loopP (spec_l01Src_points.l2 N) N (a1, a0, [], ()) (
    fun d =>
    let x17 := d.1;
    let x18 := d.2.1;
    some (x18, x17))

end Go.AE.F
namespace Go.AE.F
open Go.AE
noncomputable def spec_l01Src_l02Buf (N : Nat) (a0 : List (Int) × Int × Int × Int × Unit) : Option ((List Int × Int × Int × Unit) × List Int × Int × Int × Int × Unit) :=
  bindO (spec_l01Src_n N a0 (pAdd Go.IntKind.i64 14 (pMul Go.IntKind.i64 2 a0.2.2.2.1))) fun y25 =>
  bindO (spec_l01Src_points N y25.2 y25.1) fun y26 =>
  bindO (spec_l01Src_one N y26.2 50) fun y27 =>
  ifB y27.1 (
    bindO (spec_l01Src_n N y27.2 4) fun y28 =>
    bindO (spec_l01Src_points N y28.2 (pAdd Go.IntKind.i64 298 y28.1)) fun y29 =>
    bindO (spec_l01Src_n N y29.2 (pAdd Go.IntKind.i64 (pLen y29.1) 1)) fun y30 =>
    bindO (spec_l01Src_n N y30.2 (pAdd Go.IntKind.i64 (pLen y29.1) 1)) fun y31 =>
    bindO (spec_l01Src_one N y31.2 15) fun y32 =>
    ifB y32.1 (
      bindO (spec_l01Src_n N y32.2 3) fun y33 =>
      ifB (pEq y33.1 0) (
        bindO (spec_l01Src_n N y33.2 2) fun y34 =>
        bindO (idx [(-1), (pAdd Go.IntKind.i64 (pLen y29.1) 1)] y34.1) fun y35 =>
        bindO (idx [(-1), (pAdd Go.IntKind.i64 (pLen y29.1) 1)] y34.1) fun y36 =>
        some ((y29.1, (y36, (y31.1, ()))), y34.2)) (
        ifB (pEq y33.1 1) (
          bindO (spec_l01Src_n N y33.2 2) fun y37 =>
          bindO (idx [(-1), (pAdd Go.IntKind.i64 (pLen y29.1) 1)] y37.1) fun y38 =>
          bindO (idx [(-1), (pAdd Go.IntKind.i64 (pLen y29.1) 1)] y37.1) fun y39 =>
          some ((y29.1, (y30.1, (y39, ()))), y37.2)) (
          ifB (pFit y29.1 [55296]) (
            some (((pApp y29.1 [55296]), (y30.1, (y31.1, ()))), y33.2)) (
            none)))) (
      some ((y29.1, (y30.1, (y31.1, ()))), y32.2))) (
    bindO (spec_l01Src_n N y27.2 (pAdd Go.IntKind.i64 (pLen y26.1) 1)) fun y40 =>
    bindO (spec_l01Src_n N y40.2 (pAdd Go.IntKind.i64 (pLen y26.1) 1)) fun y41 =>
    bindO (spec_l01Src_one N y41.2 15) fun y42 =>
    ifB y42.1 (
      bindO (spec_l01Src_n N y42.2 3) fun y43 =>
      ifB (pEq y43.1 0) (
        bindO (spec_l01Src_n N y43.2 2) fun y44 =>
        bindO (idx [(-1), (pAdd Go.IntKind.i64 (pLen y26.1) 1)] y44.1) fun y45 =>
        bindO (idx [(-1), (pAdd Go.IntKind.i64 (pLen y26.1) 1)] y44.1) fun y46 =>
        some ((y26.1, (y46, (y41.1, ()))), y44.2)) (
        ifB (pEq y43.1 1) (
          bindO (spec_l01Src_n N y43.2 2) fun y47 =>
          bindO (idx [(-1), (pAdd Go.IntKind.i64 (pLen y26.1) 1)] y47.1) fun y48 =>
          bindO (idx [(-1), (pAdd Go.IntKind.i64 (pLen y26.1) 1)] y47.1) fun y49 =>
          some ((y26.1, (y40.1, (y49, ()))), y47.2)) (
          ifB (pFit y26.1 [55296]) (
            some (((pApp y26.1 [55296]), (y40.1, (y41.1, ()))), y43.2)) (
            none)))) (
      some ((y26.1, (y40.1, (y41.1, ()))), y42.2)))

noncomputable def impl_ownBuf (N : Nat) (a0 : List (Int) × Int × Int × Unit) : Option (List Int × Int × Int × Unit) :=
  bindO (slices_Clone_Sint64_int64 N a0.1) fun y1 =>
  some (y1, (a0.2.1, (a0.2.2.1, ())))

noncomputable def laws_lwBuf (N : Nat) (a0 : List (Int) × Int × Int × Unit) (a1 : List (Int) × Int × Int × Unit) : Option (Bool) :=
  bindO (laws_lwSame N a0.1 a1.1) fun y3 =>
  bindO (
    ifB y3 (
      some (pEq a0.2.1 a1.2.1)) (
      some false)) fun y4 =>
  bindO (
    ifB y4 (
      some (pEq a0.2.2.1 a1.2.2.1)) (
      some false)) fun y5 =>
  some y5

end Go.AE.F
namespace Go.AE.F
open Go.AE
noncomputable def spec_l02Moved (N : Nat) (a0 : Int) (a1 : Int) (a2 : Int) (a3 : Int) : Option (Int) :=
  ifB (pLe a0 a1) (
    some a0) (
    ifB (pLt a0 a2) (
      some a1) (
      some (pAdd Go.IntKind.i64 a0 a3)))

noncomputable def spec_BufReplace (N : Nat) (a0 : List (Int) × Int × Int × Unit) (a1 : Int) (a2 : Int) (a3 : List (Int)) : Option ((List Int × Int × Int × Unit) × List Int × Int × Unit) :=
  ifB (pGt (pLen a3) 400) (
    some (([], (0, (0, ()))), ([], (2, ())))) (
    bindO (spec_BufRight N a0) fun y11 =>
    bindO (
      ifB (pNot y11) (
        some true) (
        bindO (spec_PointsRight N a3) fun y13 =>
        some (pNot y13))) fun y12 =>
    ifB y12 (
      some (([], (0, (0, ()))), ([], (1, ())))) (
      bindO (
        ifB (pLt a1 0) (
          some true) (
          some (pGt a1 a2))) fun y14 =>
      bindO (
        ifB y14 (
          some true) (
          some (pGt a2 (pLen a0.1)))) fun y15 =>
      ifB y15 (
        some (([], (0, (0, ()))), ([], (8, ())))) (
        ifB (pGt (pAdd Go.IntKind.i64 (pSub Go.IntKind.i64 (pLen a0.1) (pSub Go.IntKind.i64 a2 a1)) (pLen a3)) 300) (
          some (([], (0, (0, ()))), ([], (5, ())))) (
          bindO (spec_l02Moved N a0.2.1 a1 a2 (pSub Go.IntKind.i64 (pLen a3) (pSub Go.IntKind.i64 a2 a1))) fun y16 =>
          bindO (spec_l02Moved N a0.2.2.1 a1 a2 (pSub Go.IntKind.i64 (pLen a3) (pSub Go.IntKind.i64 a2 a1))) fun y17 =>
          ifB (pLe 0 0) (
            ifB (pLe 0 a1) (
              ifB (pLe a1 (pLen a0.1)) (
                ifB (pLe 0 a2) (
                  ifB (pLe a2 (pLen a0.1)) (
                    ifB (pLe (pLen a0.1) (pLen a0.1)) (
                      bindO (spec_l01Copy N (sub a0.1 0 a1)) fun y18 =>
                      ifB (pFit y18 a3) (
                        ifB (pFit (pApp y18 a3) (sub a0.1 a2 (pLen a0.1))) (
                          bindO (
                            ifB (pEq a1 a2) (
                              some (pEq a0.2.1 a1)) (
                              some false)) fun y19 =>
                          ifB y19 (
                            ifB (pLe 0 a1) (
                              ifB (pLe a1 a2) (
                                ifB (pLe a2 (pLen a0.1)) (
                                  bindO (spec_l01Copy N (sub a0.1 a1 a2)) fun y20 =>
                                  some (((pApp (pApp y18 a3) (sub a0.1 a2 (pLen a0.1))), ((pAdd Go.IntKind.i64 a1 (pLen a3)), (y17, ()))), (y20, (0, ())))) (
                                  none)) (
                                none)) (
                              none)) (
                            ifB (pLe 0 a1) (
                              ifB (pLe a1 a2) (
                                ifB (pLe a2 (pLen a0.1)) (
                                  bindO (spec_l01Copy N (sub a0.1 a1 a2)) fun y21 =>
                                  some (((pApp (pApp y18 a3) (sub a0.1 a2 (pLen a0.1))), (y16, (y17, ()))), (y21, (0, ())))) (
                                  none)) (
                                none)) (
                              none))) (
                          none)) (
                        none)) (
                      none)) (
                    none)) (
                  none)) (
                none)) (
              none)) (
            none)))))

noncomputable def spec_BufInsert (N : Nat) (a0 : List (Int) × Int × Int × Unit) (a1 : List (Int)) : Option ((List Int × Int × Int × Unit) × List Int × Int × Unit) :=
  bindO (spec_BufReplace N a0 a0.2.1 a0.2.1 a1) fun y1 =>
  some y1

noncomputable def slices_Grow_Sint64_int64 (N : Nat) (a0 : List (Int)) (a1 : Int) : Option (List Int) :=
  ifB (pLt a1 0) (
    none) (
    ifB (pGt (pSub Go.IntKind.i64 a1 (pSub Go.IntKind.i64 0 (pLen ([] : List Int)))) 0) (
      ifB (pEq 0 0) (
        ifB (pEq 0 0) (
          ifB (pLe 0 (pSub Go.IntKind.i64 a1 (pSub Go.IntKind.i64 0 (pLen ([] : List Int))))) (
            ifB (pLe (pSub Go.IntKind.i64 a1 (pSub Go.IntKind.i64 0 (pLen ([] : List Int)))) 68719476736) (
              ifB (pLe 0 0) (
                ifB (pLe 0 (pLen ([] : List Int))) (
                  ifB (pLe (pLen ([] : List Int)) (pLen (pRepl (pSub Go.IntKind.i64 a1 (pSub Go.IntKind.i64 0 (pLen ([] : List Int)))) (0 : Int)))) (
                    some (sub (pRepl (pSub Go.IntKind.i64 a1 (pSub Go.IntKind.i64 0 (pLen ([] : List Int)))) (0 : Int)) 0 (pLen ([] : List Int)))) (
                    none)) (
                  none)) (
                none)) (
              none)) (
            none)) (
          none)) (
        none)) (
      some []))

noncomputable def slices_Concat_Sint64_int64.l3 {R : Type} (N : Nat) (d : List (List Int) × Int × List (List Int) × Int × Int × Unit) (kn : List (List Int) × Int × List (List Int) × Int × Int × Unit → Option R) (kx : List (List Int) × Int × Unit → Option R) : Option R :=
  let x28 := d.1;
  let x29 := d.2.1;
  let x30 := d.2.2.1;
  let x31 := d.2.2.2.1;
  let x32 := d.2.2.2.2.1;
    ifB (pLt x32 x31) (
      bindO (idx x30 x32) fun y33 =>
      ifB (pLt (pAdd Go.IntKind.i64 x29 (pLen y33)) 0) (
        none) (
        kn (x28, (pAdd Go.IntKind.i64 x29 (pLen y33)), x30, x31, (pAdd Go.IntKind.i64 x32 1), ()))) (
      kx (x28, x29, ()))
noncomputable def slices_Concat_Sint64_int64.l11 {R : Type} (N : Nat) (d : List (List Int) × Int × Int × List Int × Unit) (kn : List (List Int) × Int × Int × List Int × Unit → Option R) (kx : List Int × Unit → Option R) : Option R :=
  let x37 := d.1;
  let x38 := d.2.1;
  let x39 := d.2.2.1;
  let x40 := d.2.2.2.1;
    ifB (pLt x39 x38) (
      bindO (idx x37 x39) fun y41 =>
      ifB (pFit x40 y41) (
        kn (x37, x38, (pAdd Go.IntKind.i64 x39 1), (pApp x40 y41), ())) (
        none)) (
      kx (x40, ()))
noncomputable def slices_Concat_Sint64_int64 (N : Nat) (a0 : List (List (Int))) : Option (List Int) :=
  loopP (slices_Concat_Sint64_int64.l3 N) N (a0, 0, a0, (pLen a0), 0, ()) (
    fun d =>
    let x34 := d.1;
    let x35 := d.2.1;
    bindO (slices_Grow_Sint64_int64 N [] x35) fun y36 =>
    loopP (slices_Concat_Sint64_int64.l11 N) N (x34, (pLen x34), 0, y36, ()) (
      fun d =>
      let x42 := d.1;
      some x42))

noncomputable def impl_replace_c1 (N : Nat) (a0 : Int) (a1 : Int) (a2 : Int) (a3 : Int) : Option (Int) :=
  ifB (pLe a0 a1) (
    some a0) (
    ifB (pLt a0 a2) (
      some a1) (
      some (pAdd Go.IntKind.i64 a0 a3)))

noncomputable def impl_replace (N : Nat) (a0 : List (Int) × Int × Int × Unit) (a1 : Int) (a2 : Int) (a3 : List (Int)) : Option ((List Int × Int × Int × Unit) × List Int × Int × Unit) :=
  ifB (pLt a1 0) (
    some (([], (0, (0, ()))), ([], (8, ())))) (
    ifB (pGt a1 a2) (
      some (([], (0, (0, ()))), ([], (8, ())))) (
      bindO (impl_size_Sint64 N a0.1) fun y10 =>
      ifB (pGt a2 y10) (
        some (([], (0, (0, ()))), ([], (8, ())))) (
        bindO (impl_size_Sint64 N a3) fun y11 =>
        bindO (impl_size_Sint64 N a0.1) fun y12 =>
        ifB (pGt (pAdd Go.IntKind.i64 y12 (pSub Go.IntKind.i64 y11 (pSub Go.IntKind.i64 a2 a1))) 300) (
          some (([], (0, (0, ()))), ([], (5, ())))) (
          ifB (pLe 0 0) (
            ifB (pLe 0 a1) (
              ifB (pLe a1 (pLen a0.1)) (
                ifB (pLe 0 a2) (
                  ifB (pLe a2 (pLen a0.1)) (
                    ifB (pLe (pLen a0.1) (pLen a0.1)) (
                      bindO (slices_Concat_Sint64_int64 N [(sub a0.1 0 a1), a3, (sub a0.1 a2 (pLen a0.1))]) fun y13 =>
                      bindO (impl_replace_c1 N a0.2.1 a1 a2 (pSub Go.IntKind.i64 y11 (pSub Go.IntKind.i64 a2 a1))) fun y14 =>
                      bindO (impl_replace_c1 N a0.2.2.1 a1 a2 (pSub Go.IntKind.i64 y11 (pSub Go.IntKind.i64 a2 a1))) fun y15 =>
                      bindO (
                        ifB (pEq a1 a2) (
                          some (pEq a0.2.1 a1)) (
                          some false)) fun y16 =>
                      ifB y16 (
                        bindO (impl_size_Sint64 N a3) fun y17 =>
                        ifB (pLe 0 a1) (
                          ifB (pLe a1 a2) (
                            ifB (pLe a2 (pLen a0.1)) (
                              bindO (slices_Clone_Sint64_int64 N (sub a0.1 a1 a2)) fun y18 =>
                              some ((y13, ((pAdd Go.IntKind.i64 a1 y17), (y15, ()))), (y18, (0, ())))) (
                              none)) (
                            none)) (
                          none)) (
                        ifB (pLe 0 a1) (
                          ifB (pLe a1 a2) (
                            ifB (pLe a2 (pLen a0.1)) (
                              bindO (slices_Clone_Sint64_int64 N (sub a0.1 a1 a2)) fun y19 =>
                              some ((y13, (y14, (y15, ()))), (y19, (0, ())))) (
                              none)) (
                            none)) (
                          none))) (
                      none)) (
                    none)) (
                  none)) (
                none)) (
              none)) (
            none)))))

end Go.AE.F
namespace Go.AE.F
open Go.AE
noncomputable def spec_DrawUndoRun.l5 {R : Type} (N : Nat) (d : Int × (List Int × Int × Int × Unit) × (List Int × Int × Int × Int × Unit) × (List Int × Int × Int × Unit) × List (List Int) × Unit) (kn : Int × (List Int × Int × Int × Unit) × (List Int × Int × Int × Int × Unit) × (List Int × Int × Int × Unit) × List (List Int) × Unit → Option R) (kx : (List Int × Int × Int × Unit) × (List Int × Int × Int × Int × Unit) × (List Int × Int × Int × Unit) × List (List Int) × Unit → Option R) : Option R :=
  let x37 := d.1;
  let x38 := d.2.1;
  let x39 := d.2.2.1;
  let x40 := d.2.2.2.1;
  let x41 := d.2.2.2.2.1;
    ifB (pGt x37 0) (
      bindO (A := Int × (List Int × Int × Int × Unit) × (List Int × Int × Int × Int × Unit) × (List Int × Int × Int × Unit) × List (List Int) × Unit) (
        bindO (spec_l01Src_n N x39 4) fun y42 =>
        bindO (spec_l01Src_points N y42.2 (pAdd Go.IntKind.i64 1 y42.1)) fun y43 =>
        bindO (spec_l01Src_one N y43.2 3) fun y44 =>
        ifB y44.1 (
          ifB (pFit x41 [[]]) (
            some (x37, x38, y44.2, x40, (pApp x41 [[]]), ())) (
            none)) (
          ifB (pFit x41 [y43.1]) (
            some (x37, x38, y44.2, x40, (pApp x41 [y43.1]), ())) (
            none))) (
        fun d =>
        let x45 := d.1;
        let x46 := d.2.1;
        let x47 := d.2.2.1;
        let x48 := d.2.2.2.1;
        let x49 := d.2.2.2.2.1;
        kn ((pSub Go.IntKind.i64 x45 1), x46, x47, x48, x49, ()))) (
      kx (x38, x39, x40, x41, ()))
noncomputable def spec_DrawUndoRun (N : Nat) (a0 : List (Int)) : Option ((List Int × Int × Int × Unit) × List (List Int)) :=
  bindO (spec_l01Source N a0) fun y34 =>
  bindO (spec_l01Src_l02Buf N y34) fun y35 =>
  bindO (spec_l01Src_n N y35.2 (pAdd Go.IntKind.i64 6 (pMul Go.IntKind.i64 3 y35.2.2.2.2.1))) fun y36 =>
  loopP (spec_DrawUndoRun.l5 N) N (y36.1, ([], (0, (0, ()))), y36.2, y35.1, [], ()) (
    fun d =>
    let x50 := d.1;
    let x51 := d.2.1;
    let x52 := d.2.2.1;
    let x53 := d.2.2.2.1;
    bindO (spec_l01Src_one N x51 20) fun y54 =>
    ifB y54.1 (
      ifB (pFit x53 [[(-1)]]) (
        some (x52, (pApp x53 [[(-1)]]))) (
        none)) (
      some (x52, x53)))

noncomputable def spec_l02Copy (N : Nat) (a0 : List (Int) × Int × Int × Unit) : Option (List Int × Int × Int × Unit) :=
  bindO (spec_l01Copy N a0.1) fun y1 =>
  some (y1, a0.2)

noncomputable def spec_l05Bufs.l4 {R : Type} (N : Nat) (d : (List (List Int × Int × Int × Unit)) × Int × Unit) (kn : (List (List Int × Int × Int × Unit)) × Int × Unit → Option R) (kx : (Unit) ⊕ (Bool × Unit) → Option R) : Option R :=
  let x11 := d.1;
  let x12 := d.2.1;
    ifB (pLt x12 (pLen x11)) (
      bindO (idx x11 x12) fun y13 =>
      bindO (spec_BufRight N y13) fun y14 =>
      ifB (pNot y14) (
        kx (.inr (false, ()))) (
        kn (x11, (pAdd Go.IntKind.i64 x12 1), ()))) (
      kx (.inl (())))
noncomputable def spec_l05Bufs (N : Nat) (a0 : List (List (Int) × Int × Int × Unit)) : Option (Bool) :=
  ifB (pGt (pLen a0) 20) (
    some false) (
    loopP (spec_l05Bufs.l4 N) N (a0, 0, ()) (
      onSum (fun d =>
        some true) (
      fun d =>
      let x15 := d.1;
      some x15)))

noncomputable def spec_UndoRight (N : Nat) (a0 : (List (List (Int) × Int × Int × Unit)) × (List (List (Int) × Int × Int × Unit)) × Unit) : Option (Bool) :=
  bindO (spec_l05Bufs N a0.1) fun y3 =>
  bindO (
    ifB y3 (
      bindO (spec_l05Bufs N a0.2.1) fun y5 =>
      some y5) (
      some false)) fun y4 =>
  some y4

noncomputable def spec_l05CopyBufs.l3 {R : Type} (N : Nat) (d : (List (List Int × Int × Int × Unit)) × Int × (List (List Int × Int × Int × Unit)) × Unit) (kn : (List (List Int × Int × Int × Unit)) × Int × (List (List Int × Int × Int × Unit)) × Unit → Option R) (kx : (List (List Int × Int × Int × Unit)) × Unit → Option R) : Option R :=
  let x13 := d.1;
  let x14 := d.2.1;
  let x15 := d.2.2.1;
    ifB (pLt x14 (pLen x13)) (
      bindO (idx x13 x14) fun y16 =>
      bindO (spec_l02Copy N y16) fun y17 =>
      ifB (pFit x15 [y17]) (
        kn (x13, (pAdd Go.IntKind.i64 x14 1), (pApp x15 [y17]), ())) (
        none)) (
      kx (x15, ()))
noncomputable def spec_l05CopyBufs (N : Nat) (a0 : List (List (Int) × Int × Int × Unit)) : Option (List (List Int × Int × Int × Unit)) :=
  loopP (spec_l05CopyBufs.l3 N) N (a0, 0, [], ()) (
    fun d =>
    let x18 := d.1;
    some x18)

noncomputable def spec_l05Put (N : Nat) (a0 : List (List (Int) × Int × Int × Unit)) (a1 : List (Int) × Int × Int × Unit) : Option (List (List Int × Int × Int × Unit)) :=
  bindO (spec_l05CopyBufs N a0) fun y2 =>
  bindO (spec_l02Copy N a1) fun y3 =>
  ifB (pFit y2 [y3]) (
    ifB (pGt (pLen (pApp y2 [y3])) 20) (
      ifB (pLe 0 1) (
        ifB (pLe 1 (pLen (pApp y2 [y3]))) (
          ifB (pLe (pLen (pApp y2 [y3])) (pLen (pApp y2 [y3]))) (
            some (sub (pApp y2 [y3]) 1 (pLen (pApp y2 [y3])))) (
            none)) (
          none)) (
        none)) (
      some (pApp y2 [y3]))) (
    none)

noncomputable def spec_UndoBack (N : Nat) (a0 : (List (List (Int) × Int × Int × Unit)) × (List (List (Int) × Int × Int × Unit)) × Unit) (a1 : List (Int) × Int × Int × Unit) : Option (((List (List Int × Int × Int × Unit)) × (List (List Int × Int × Int × Unit)) × Unit) × (List Int × Int × Int × Unit) × Int × Unit) :=
  bindO (spec_UndoRight N a0) fun y7 =>
  bindO (
    ifB (pNot y7) (
      some true) (
      bindO (spec_BufRight N a1) fun y9 =>
      some (pNot y9))) fun y8 =>
  ifB y8 (
    some (([], ([], ())), (([], (0, (0, ()))), (1, ())))) (
    ifB (pEq (pLen a0.1) 0) (
      some (([], ([], ())), (([], (0, (0, ()))), (4, ())))) (
      ifB (pLe 0 0) (
        ifB (pLe 0 (pSub Go.IntKind.i64 (pLen a0.1) 1)) (
          ifB (pLe (pSub Go.IntKind.i64 (pLen a0.1) 1) (pLen a0.1)) (
            bindO (spec_l05CopyBufs N (sub a0.1 0 (pSub Go.IntKind.i64 (pLen a0.1) 1))) fun y10 =>
            bindO (spec_l05Put N a0.2.1 a1) fun y11 =>
            bindO (idx a0.1 (pSub Go.IntKind.i64 (pLen a0.1) 1)) fun y12 =>
            bindO (spec_l02Copy N y12) fun y13 =>
            some ((y10, (y11, ())), (y13, (0, ())))) (
            none)) (
          none)) (
        none)))

noncomputable def spec_l05Copy (N : Nat) (a0 : (List (List (Int) × Int × Int × Unit)) × (List (List (Int) × Int × Int × Unit)) × Unit) : Option ((List (List Int × Int × Int × Unit)) × (List (List Int × Int × Int × Unit)) × Unit) :=
  bindO (spec_l05CopyBufs N a0.1) fun y2 =>
  bindO (spec_l05CopyBufs N a0.2.1) fun y3 =>
  some (y2, (y3, ()))

noncomputable def spec_UndoNote (N : Nat) (a0 : (List (List (Int) × Int × Int × Unit)) × (List (List (Int) × Int × Int × Unit)) × Unit) (a1 : List (Int) × Int × Int × Unit) : Option ((List (List Int × Int × Int × Unit)) × (List (List Int × Int × Int × Unit)) × Unit) :=
  bindO (spec_UndoRight N a0) fun y5 =>
  bindO (
    ifB (pNot y5) (
      some true) (
      bindO (spec_BufRight N a1) fun y7 =>
      some (pNot y7))) fun y6 =>
  ifB y6 (
    bindO (spec_l05Copy N a0) fun y8 =>
    some y8) (
    bindO (spec_l05Put N a0.1 a1) fun y9 =>
    some (y9, ([], ())))

noncomputable def spec_UndoRun.l6 {R : Type} (N : Nat) (d : List (List Int) × Int × (List Int × Int × Int × Unit) × (((List (List Int × Int × Int × Unit)) × (List (List Int × Int × Int × Unit)) × Unit) × (List Int × Int × Int × Unit) × Int × Unit) × Unit) (kn : List (List Int) × Int × (List Int × Int × Int × Unit) × (((List (List Int × Int × Int × Unit)) × (List (List Int × Int × Int × Unit)) × Unit) × (List Int × Int × Int × Unit) × Int × Unit) × Unit → Option R) (kx : (List (List Int) × (List Int × Int × Int × Unit) × (((List (List Int × Int × Int × Unit)) × (List (List Int × Int × Int × Unit)) × Unit) × (List Int × Int × Int × Unit) × Int × Unit) × Unit) ⊕ ((((List (List Int × Int × Int × Unit)) × (List (List Int × Int × Int × Unit)) × Unit) × (List Int × Int × Int × Unit) × Int × Unit) × Unit) → Option R) : Option R :=
  let x49 := d.1;
  let x50 := d.2.1;
  let x51 := d.2.2.1;
  let x52 := d.2.2.2.1;
    ifB (pLt x50 (pLen x49)) (
      bindO (idx x49 x50) fun y53 =>
      bindO (spec_PointsRight N y53) fun y54 =>
      ifB (pNot y54) (
        kx (.inr ((([], ([], ())), (([], (0, (0, ()))), (1, ()))), ()))) (
        kn (x49, (pAdd Go.IntKind.i64 x50 1), x51, x52, ()))) (
      kx (.inl (x49, x51, x52, ())))
noncomputable def spec_UndoRun.l12 {R : Type} (N : Nat) (d : List (List Int) × Int × (((List (List Int × Int × Int × Unit)) × (List (List Int × Int × Int × Unit)) × Unit) × (List Int × Int × Int × Unit) × Int × Unit) × (((List (List Int × Int × Int × Unit)) × (List (List Int × Int × Int × Unit)) × Unit) × (List Int × Int × Int × Unit) × Int × Unit) × Unit) (kn : List (List Int) × Int × (((List (List Int × Int × Int × Unit)) × (List (List Int × Int × Int × Unit)) × Unit) × (List Int × Int × Int × Unit) × Int × Unit) × (((List (List Int × Int × Int × Unit)) × (List (List Int × Int × Int × Unit)) × Unit) × (List Int × Int × Int × Unit) × Int × Unit) × Unit → Option R) (kx : (((List (List Int × Int × Int × Unit)) × (List (List Int × Int × Int × Unit)) × Unit) × (List Int × Int × Int × Unit) × Int × Unit) × (((List (List Int × Int × Int × Unit)) × (List (List Int × Int × Int × Unit)) × Unit) × (List Int × Int × Int × Unit) × Int × Unit) × Unit → Option R) : Option R :=
  let x59 := d.1;
  let x60 := d.2.1;
  let x61 := d.2.2.1;
  let x62 := d.2.2.2.1;
    ifB (pLt x60 (pLen x59)) (
      bindO (A := List (List Int) × Int × (((List (List Int × Int × Int × Unit)) × (List (List Int × Int × Int × Unit)) × Unit) × (List Int × Int × Int × Unit) × Int × Unit) × (((List (List Int × Int × Int × Unit)) × (List (List Int × Int × Int × Unit)) × Unit) × (List Int × Int × Int × Unit) × Int × Unit) × Unit) (
        bindO (idx x59 x60) fun y63 =>
        ifB (pEq (pLen y63) 0) (
          bindO (spec_UndoBack N x62.1 x62.2.1) fun y64 =>
          ifB (pEq y64.2.2.1 0) (
            some (x59, x60, x61, y64, ())) (
            some (x59, x60, x61, x62, ()))) (
          bindO (idx x59 x60) fun y65 =>
          bindO (spec_BufInsert N x62.2.1 y65) fun y66 =>
          ifB (pEq y66.2.2.1 0) (
            bindO (spec_UndoNote N x62.1 x62.2.1) fun y67 =>
            some (x59, x60, x61, (y67, (y66.1, x62.2.2)), ())) (
            some (x59, x60, x61, x62, ())))) (
        fun d =>
        let x68 := d.1;
        let x69 := d.2.1;
        let x70 := d.2.2.1;
        let x71 := d.2.2.2.1;
        kn (x68, (pAdd Go.IntKind.i64 x69 1), x70, x71, ()))) (
      kx (x61, x62, ()))
noncomputable def spec_UndoRun (N : Nat) (a0 : List (Int) × Int × Int × Unit) (a1 : List (List (Int))) : Option (((List (List Int × Int × Int × Unit)) × (List (List Int × Int × Int × Unit)) × Unit) × (List Int × Int × Int × Unit) × Int × Unit) :=
  ifB (pGt (pLen a1) 400) (
    some (([], ([], ())), (([], (0, (0, ()))), (2, ())))) (
    bindO (spec_BufRight N a0) fun y48 =>
    ifB (pNot y48) (
      some (([], ([], ())), (([], (0, (0, ()))), (1, ())))) (
      loopP (spec_UndoRun.l6 N) N (a1, 0, a0, (([], ([], ())), (([], (0, (0, ()))), (0, ()))), ()) (
        onSum (fun d =>
          let x55 := d.1;
          let x56 := d.2.1;
          let x57 := d.2.2.1;
          bindO (spec_l02Copy N x56) fun y58 =>
          loopP (spec_UndoRun.l12 N) N (x55, 0, x57, (([], ([], ())), (y58, (0, ()))), ()) (
            fun d =>
            let x72 := d.1;
            let x73 := d.2.1;
            some x73)) (
        fun d =>
        let x74 := d.1;
        some x74))))

noncomputable def impl_UndoRun_c1 (N : Nat) (a0 : List (Int)) : Option (Bool) :=
  bindO (impl_PointsRight N a0) fun y1 =>
  some (pNot y1)

noncomputable def slices_IndexFunc_S_Sint64__Sint64__impl_UndoRun_c1.l2 {R : Type} (N : Nat) (d : List (List Int) × Int × Int × Unit) (kn : List (List Int) × Int × Int × Unit → Option R) (kx : (Unit) ⊕ (Int × Unit) → Option R) : Option R :=
  let x13 := d.1;
  let x14 := d.2.1;
  let x15 := d.2.2.1;
    ifB (pLt x15 x14) (
      bindO (idx x13 x15) fun y16 =>
      bindO (impl_UndoRun_c1 N y16) fun y17 =>
      ifB y17 (
        kx (.inr (x15, ()))) (
        kn (x13, x14, (pAdd Go.IntKind.i64 x15 1), ()))) (
      kx (.inl (())))
noncomputable def slices_IndexFunc_S_Sint64__Sint64__impl_UndoRun_c1 (N : Nat) (a0 : List (List (Int))) : Option (Int) :=
  loopP (slices_IndexFunc_S_Sint64__Sint64__impl_UndoRun_c1.l2 N) N (a0, (pLen a0), 0, ()) (
    onSum (fun d =>
      some (-1)) (
    fun d =>
    let x18 := d.1;
    some x18))

noncomputable def slices_ContainsFunc_S_Sint64__Sint64__impl_UndoRun_c1 (N : Nat) (a0 : List (List (Int))) : Option (Bool) :=
  bindO (slices_IndexFunc_S_Sint64__Sint64__impl_UndoRun_c1 N a0) fun y1 =>
  some (pGe y1 0)

noncomputable def impl_areBufs_c1 (N : Nat) (a0 : List (Int) × Int × Int × Unit) : Option (Bool) :=
  bindO (impl_BufRight N a0) fun y1 =>
  some (pNot y1)

noncomputable def slices_IndexFunc_Simpl_Buf_impl_Buf__impl_areBufs_c1.l2 {R : Type} (N : Nat) (d : (List (List Int × Int × Int × Unit)) × Int × Int × Unit) (kn : (List (List Int × Int × Int × Unit)) × Int × Int × Unit → Option R) (kx : (Unit) ⊕ (Int × Unit) → Option R) : Option R :=
  let x13 := d.1;
  let x14 := d.2.1;
  let x15 := d.2.2.1;
    ifB (pLt x15 x14) (
      bindO (idx x13 x15) fun y16 =>
      bindO (impl_areBufs_c1 N y16) fun y17 =>
      ifB y17 (
        kx (.inr (x15, ()))) (
        kn (x13, x14, (pAdd Go.IntKind.i64 x15 1), ()))) (
      kx (.inl (())))
noncomputable def slices_IndexFunc_Simpl_Buf_impl_Buf__impl_areBufs_c1 (N : Nat) (a0 : List (List (Int) × Int × Int × Unit)) : Option (Int) :=
  loopP (slices_IndexFunc_Simpl_Buf_impl_Buf__impl_areBufs_c1.l2 N) N (a0, (pLen a0), 0, ()) (
    onSum (fun d =>
      some (-1)) (
    fun d =>
    let x18 := d.1;
    some x18))

noncomputable def slices_ContainsFunc_Simpl_Buf_impl_Buf__impl_areBufs_c1 (N : Nat) (a0 : List (List (Int) × Int × Int × Unit)) : Option (Bool) :=
  bindO (slices_IndexFunc_Simpl_Buf_impl_Buf__impl_areBufs_c1 N a0) fun y1 =>
  some (pGe y1 0)

noncomputable def impl_areBufs (N : Nat) (a0 : List (List (Int) × Int × Int × Unit)) : Option (Bool) :=
  bindO (
    ifB (pLe (pLen a0) 20) (
      bindO (slices_ContainsFunc_Simpl_Buf_impl_Buf__impl_areBufs_c1 N a0) fun y3 =>
      some (pNot y3)) (
      some false)) fun y2 =>
  some y2

noncomputable def impl_UndoRight (N : Nat) (a0 : (List (List (Int) × Int × Int × Unit)) × (List (List (Int) × Int × Int × Unit)) × Unit) : Option (Bool) :=
  bindO (impl_areBufs N a0.1) fun y3 =>
  bindO (
    ifB y3 (
      bindO (impl_areBufs N a0.2.1) fun y5 =>
      some y5) (
      some false)) fun y4 =>
  some y4

noncomputable def impl_ownBufs.l3 {R : Type} (N : Nat) (d : (List (List Int × Int × Int × Unit)) × Int × Int × (List (List Int × Int × Int × Unit)) × Unit) (kn : (List (List Int × Int × Int × Unit)) × Int × Int × (List (List Int × Int × Int × Unit)) × Unit → Option R) (kx : (List (List Int × Int × Int × Unit)) × Unit → Option R) : Option R :=
  let x15 := d.1;
  let x16 := d.2.1;
  let x17 := d.2.2.1;
  let x18 := d.2.2.2.1;
    ifB (pLt x17 x16) (
      bindO (idx x15 x17) fun y19 =>
      bindO (impl_ownBuf N y19) fun y20 =>
      ifB (pFit x18 [y20]) (
        kn (x15, x16, (pAdd Go.IntKind.i64 x17 1), (pApp x18 [y20]), ())) (
        none)) (
      kx (x18, ()))
noncomputable def impl_ownBufs (N : Nat) (a0 : List (List (Int) × Int × Int × Unit)) : Option (List (List Int × Int × Int × Unit)) :=
  loopP (impl_ownBufs.l3 N) N (a0, (pLen a0), 0, [], ()) (
    fun d =>
    let x21 := d.1;
    some x21)

noncomputable def impl_behindBufs (N : Nat) (a0 : List (List (Int) × Int × Int × Unit)) (a1 : List (Int) × Int × Int × Unit) : Option (List (List Int × Int × Int × Unit)) :=
  bindO (impl_ownBufs N a0) fun y2 =>
  bindO (impl_ownBuf N a1) fun y3 =>
  ifB (pFit y2 [y3]) (
    ifB (pLe 0 (pMax (pSub Go.IntKind.i64 (pLen (pApp y2 [y3])) 20) 0)) (
      ifB (pLe (pMax (pSub Go.IntKind.i64 (pLen (pApp y2 [y3])) 20) 0) (pLen (pApp y2 [y3]))) (
        ifB (pLe (pLen (pApp y2 [y3])) (pLen (pApp y2 [y3]))) (
          some (sub (pApp y2 [y3]) (pMax (pSub Go.IntKind.i64 (pLen (pApp y2 [y3])) 20) 0) (pLen (pApp y2 [y3])))) (
          none)) (
        none)) (
      none)) (
    none)

noncomputable def impl_UndoBack (N : Nat) (a0 : (List (List (Int) × Int × Int × Unit)) × (List (List (Int) × Int × Int × Unit)) × Unit) (a1 : List (Int) × Int × Int × Unit) : Option (((List (List Int × Int × Int × Unit)) × (List (List Int × Int × Int × Unit)) × Unit) × (List Int × Int × Int × Unit) × Int × Unit) :=
  bindO (impl_UndoRight N a0) fun y10 =>
  bindO (
    ifB (pNot y10) (
      some true) (
      bindO (impl_BufRight N a1) fun y12 =>
      some (pNot y12))) fun y11 =>
  ifB y11 (
    some (([], ([], ())), (([], (0, (0, ()))), (1, ())))) (
    ifB (pLt (pSub Go.IntKind.i64 (pLen a0.1) 1) 0) (
      some (([], ([], ())), (([], (0, (0, ()))), (4, ())))) (
      ifB (pLe 0 0) (
        ifB (pLe 0 (pSub Go.IntKind.i64 (pLen a0.1) 1)) (
          ifB (pLe (pSub Go.IntKind.i64 (pLen a0.1) 1) (pLen a0.1)) (
            bindO (idx a0.1 (pSub Go.IntKind.i64 (pLen a0.1) 1)) fun y13 =>
            bindO (impl_ownBufs N (sub a0.1 0 (pSub Go.IntKind.i64 (pLen a0.1) 1))) fun y14 =>
            bindO (impl_behindBufs N a0.2.1 a1) fun y15 =>
            bindO (impl_ownBuf N y13) fun y16 =>
            some ((y14, (y15, ())), (y16, (0, ())))) (
            none)) (
          none)) (
        none)))

noncomputable def impl_ownUndo (N : Nat) (a0 : (List (List (Int) × Int × Int × Unit)) × (List (List (Int) × Int × Int × Unit)) × Unit) : Option ((List (List Int × Int × Int × Unit)) × (List (List Int × Int × Int × Unit)) × Unit) :=
  bindO (impl_ownBufs N a0.1) fun y2 =>
  bindO (impl_ownBufs N a0.2.1) fun y3 =>
  some (y2, (y3, ()))

noncomputable def impl_UndoNote (N : Nat) (a0 : (List (List (Int) × Int × Int × Unit)) × (List (List (Int) × Int × Int × Unit)) × Unit) (a1 : List (Int) × Int × Int × Unit) : Option ((List (List Int × Int × Int × Unit)) × (List (List Int × Int × Int × Unit)) × Unit) :=
  bindO (impl_UndoRight N a0) fun y5 =>
  bindO (
    ifB (pNot y5) (
      some true) (
      bindO (impl_BufRight N a1) fun y7 =>
      some (pNot y7))) fun y6 =>
  ifB y6 (
    bindO (impl_ownUndo N a0) fun y8 =>
    some y8) (
    bindO (impl_behindBufs N a0.1 a1) fun y9 =>
    some (y9, ([], ())))

noncomputable def impl_UndoRun.l7 {R : Type} (N : Nat) (d : List (List Int) × Int × Int × (((List (List Int × Int × Int × Unit)) × (List (List Int × Int × Int × Unit)) × Unit) × (List Int × Int × Int × Unit) × Int × Unit) × ((List (List Int × Int × Int × Unit)) × (List (List Int × Int × Int × Unit)) × Unit) × (List Int × Int × Int × Unit) × Unit) (kn : List (List Int) × Int × Int × (((List (List Int × Int × Int × Unit)) × (List (List Int × Int × Int × Unit)) × Unit) × (List Int × Int × Int × Unit) × Int × Unit) × ((List (List Int × Int × Int × Unit)) × (List (List Int × Int × Int × Unit)) × Unit) × (List Int × Int × Int × Unit) × Unit → Option R) (kx : (((List (List Int × Int × Int × Unit)) × (List (List Int × Int × Int × Unit)) × Unit) × (List Int × Int × Int × Unit) × Int × Unit) × ((List (List Int × Int × Int × Unit)) × (List (List Int × Int × Int × Unit)) × Unit) × (List Int × Int × Int × Unit) × Unit → Option R) : Option R :=
  let x45 := d.1;
  let x46 := d.2.1;
  let x47 := d.2.2.1;
  let x48 := d.2.2.2.1;
  let x49 := d.2.2.2.2.1;
  let x50 := d.2.2.2.2.2.1;
    ifB (pLt x47 x46) (
      bindO (A := List (List Int) × Int × Int × (((List (List Int × Int × Int × Unit)) × (List (List Int × Int × Int × Unit)) × Unit) × (List Int × Int × Int × Unit) × Int × Unit) × ((List (List Int × Int × Int × Unit)) × (List (List Int × Int × Int × Unit)) × Unit) × (List Int × Int × Int × Unit) × Unit) (
        bindO (idx x45 x47) fun y51 =>
        ifB (pEq (pLen y51) 0) (
          bindO (impl_UndoBack N x49 x50) fun y52 =>
          ifB (pEq y52.2.2.1 0) (
            some (x45, x46, x47, x48, y52.1, y52.2.1, ())) (
            some (x45, x46, x47, x48, x49, x50, ()))) (
          bindO (impl_replace N x50 x50.2.1 x50.2.1 y51) fun y53 =>
          ifB (pEq y53.2.2.1 0) (
            bindO (impl_UndoNote N x49 x50) fun y54 =>
            some (x45, x46, x47, x48, y54, y53.1, ())) (
            some (x45, x46, x47, x48, x49, x50, ())))) (
        fun d =>
        let x55 := d.1;
        let x56 := d.2.1;
        let x57 := d.2.2.1;
        let x58 := d.2.2.2.1;
        let x59 := d.2.2.2.2.1;
        let x60 := d.2.2.2.2.2.1;
        kn (x55, x56, (pAdd Go.IntKind.i64 x57 1), x58, x59, x60, ()))) (
      kx (x48, x49, x50, ()))
noncomputable def impl_UndoRun (N : Nat) (a0 : List (Int) × Int × Int × Unit) (a1 : List (List (Int))) : Option (((List (List Int × Int × Int × Unit)) × (List (List Int × Int × Int × Unit)) × Unit) × (List Int × Int × Int × Unit) × Int × Unit) :=
  bindO (impl_isMany N (pLen a1)) fun y40 =>
  ifB y40 (
    some (([], ([], ())), (([], (0, (0, ()))), (2, ())))) (
    bindO (impl_BufRight N a0) fun y41 =>
    bindO (
      ifB (pNot y41) (
        some true) (
        bindO (slices_ContainsFunc_S_Sint64__Sint64__impl_UndoRun_c1 N a1) fun y43 =>
        some y43)) fun y42 =>
    ifB y42 (
      some (([], ([], ())), (([], (0, (0, ()))), (1, ())))) (
      bindO (impl_ownBuf N a0) fun y44 =>
      loopP (impl_UndoRun.l7 N) N (a1, (pLen a1), 0, (([], ([], ())), (([], (0, (0, ()))), (0, ()))), ([], ([], ())), y44, ()) (
        fun d =>
        let x61 := d.1;
        let x62 := d.2.1;
        let x63 := d.2.2.1;
        some (x62, (x63, (0, ()))))))

noncomputable def laws_FnUndoAll.l9 {R : Type} (N : Nat) (d : List (List Int) × Int × (List Int × Int × Int × Unit) × List (List Int) × List (List Int) × Unit) (kn : List (List Int) × Int × (List Int × Int × Int × Unit) × List (List Int) × List (List Int) × Unit → Option R) (kx : (List Int × Int × Int × Unit) × List (List Int) × List (List Int) × Unit → Option R) : Option R :=
  let x49 := d.1;
  let x50 := d.2.1;
  let x51 := d.2.2.1;
  let x52 := d.2.2.2.1;
  let x53 := d.2.2.2.2.1;
    ifB (pLt x50 (pLen x49)) (
      bindO (A := List (List Int) × Int × (List Int × Int × Int × Unit) × List (List Int) × List (List Int) × Unit) (
        bindO (idx x49 x50) fun y54 =>
        bindO (
          ifB (pGt (pLen y54) 0) (
            some (pLt (pLen x52) 20)) (
            some false)) fun y55 =>
        ifB y55 (
          bindO (idx x49 x50) fun y56 =>
          bindO (laws_lwCopy N y56) fun y57 =>
          ifB (pFit x52 [y57]) (
            ifB (pFit x53 [[]]) (
              some (x49, x50, x51, (pApp x52 [y57]), (pApp x53 [[]]), ())) (
              none)) (
            none)) (
          some (x49, x50, x51, x52, x53, ()))) (
        fun d =>
        let x58 := d.1;
        let x59 := d.2.1;
        let x60 := d.2.2.1;
        let x61 := d.2.2.2.1;
        let x62 := d.2.2.2.2.1;
        kn (x58, (pAdd Go.IntKind.i64 x59 1), x60, x61, x62, ()))) (
      kx (x51, x52, x53, ()))
noncomputable def laws_FnUndoAll (N : Nat) (a0 : List (Int)) : Option (Bool) :=
  ifB (pGt (pLen a0) 1048576) (
    some true) (
    bindO (spec_DrawUndoRun N a0) fun y44 =>
    bindO (spec_UndoRun N y44.1 y44.2) fun y45 =>
    ifB (pNe y45.2.2.1 0) (
      bindO (laws_lwAll N y44.2) fun y46 =>
      bindO (impl_UndoRun N y44.1 y46) fun y47 =>
      bindO (spec_UndoRun N y44.1 y44.2) fun y48 =>
      some (pEq y47.2.2.1 y48.2.2.1)) (
      loopP (laws_FnUndoAll.l9 N) N (y44.2, 0, y44.1, [], [], ()) (
        fun d =>
        let x63 := d.1;
        let x64 := d.2.1;
        let x65 := d.2.2.1;
        bindO (laws_lwAll N x64) fun y66 =>
        bindO (impl_UndoRun N x63 y66) fun y67 =>
        bindO (spec_UndoRun N x63 x64) fun y68 =>
        bindO (laws_lwBuf N y67.2.1 y68.2.1) fun y69 =>
        ifB (pNot y69) (
          some false) (
          ifB (pFit x64 x65) (
            bindO (impl_UndoRun N x63 (pApp x64 x65)) fun y70 =>
            bindO (
              ifB (pEq y70.2.2.1 0) (
                bindO (laws_lwBuf N y70.2.1 x63) fun y72 =>
                some y72) (
                some false)) fun y71 =>
            bindO (
              ifB y71 (
                some (pEq (pLen y70.1.1) 0)) (
                some false)) fun y73 =>
            some y73) (
            none)))))

end Go.AE.F
