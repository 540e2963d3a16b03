/- Functions as they are printed out of the program: plain Lean, nothing is claimed here. -/
import Derived.Test.YtjofefnjigmnlaaF9
namespace Go.AE.F
open Go.AE
noncomputable def spec_l01Src_l02Buf (N : Nat) (a0 : List (Int) × Int × Int × Int × Unit) : Option ((List Int × Int × Int × Unit) × List Int × Int × Int × Int × Unit) :=
  bindO (spec_l01Src_n N a0 (pAdd Go.IntKind.i64 14 (pMul Go.IntKind.i64 2 a0.2.2.2.1))) fun y25 =>
  bindO (spec_l01Src_points N y25.2 y25.1) fun y26 =>
  bindO (spec_l01Src_one N y26.2 50) fun y27 =>
  ifB y27.1 (
    bindO (spec_l01Src_n N y27.2 4) fun y28 =>
    bindO (spec_l01Src_points N y28.2 (pAdd Go.IntKind.i64 298 y28.1)) fun y29 =>
    bindO (spec_l01Src_n N y29.2 (pAdd Go.IntKind.i64 (pLen y29.1) 1)) fun y30 =>
    bindO (spec_l01Src_n N y30.2 (pAdd Go.IntKind.i64 (pLen y29.1) 1)) fun y31 =>
    bindO (spec_l01Src_one N y31.2 15) fun y32 =>
    ifB y32.1 (
      bindO (spec_l01Src_n N y32.2 3) fun y33 =>
      ifB (pEq y33.1 0) (
        bindO (spec_l01Src_n N y33.2 2) fun y34 =>
        bindO (idx [(-1), (pAdd Go.IntKind.i64 (pLen y29.1) 1)] y34.1) fun y35 =>
        bindO (idx [(-1), (pAdd Go.IntKind.i64 (pLen y29.1) 1)] y34.1) fun y36 =>
        some ((y29.1, (y36, (y31.1, ()))), y34.2)) (
        ifB (pEq y33.1 1) (
          bindO (spec_l01Src_n N y33.2 2) fun y37 =>
          bindO (idx [(-1), (pAdd Go.IntKind.i64 (pLen y29.1) 1)] y37.1) fun y38 =>
          bindO (idx [(-1), (pAdd Go.IntKind.i64 (pLen y29.1) 1)] y37.1) fun y39 =>
          some ((y29.1, (y30.1, (y39, ()))), y37.2)) (
          ifB (pFit y29.1 [55296]) (
            some (((pApp y29.1 [55296]), (y30.1, (y31.1, ()))), y33.2)) (
            none)))) (
      some ((y29.1, (y30.1, (y31.1, ()))), y32.2))) (
    bindO (spec_l01Src_n N y27.2 (pAdd Go.IntKind.i64 (pLen y26.1) 1)) fun y40 =>
    bindO (spec_l01Src_n N y40.2 (pAdd Go.IntKind.i64 (pLen y26.1) 1)) fun y41 =>
    bindO (spec_l01Src_one N y41.2 15) fun y42 =>
    ifB y42.1 (
      bindO (spec_l01Src_n N y42.2 3) fun y43 =>
      ifB (pEq y43.1 0) (
        bindO (spec_l01Src_n N y43.2 2) fun y44 =>
        bindO (idx [(-1), (pAdd Go.IntKind.i64 (pLen y26.1) 1)] y44.1) fun y45 =>
        bindO (idx [(-1), (pAdd Go.IntKind.i64 (pLen y26.1) 1)] y44.1) fun y46 =>
        some ((y26.1, (y46, (y41.1, ()))), y44.2)) (
        ifB (pEq y43.1 1) (
          bindO (spec_l01Src_n N y43.2 2) fun y47 =>
          bindO (idx [(-1), (pAdd Go.IntKind.i64 (pLen y26.1) 1)] y47.1) fun y48 =>
          bindO (idx [(-1), (pAdd Go.IntKind.i64 (pLen y26.1) 1)] y47.1) fun y49 =>
          some ((y26.1, (y40.1, (y49, ()))), y47.2)) (
          ifB (pFit y26.1 [55296]) (
            some (((pApp y26.1 [55296]), (y40.1, (y41.1, ()))), y43.2)) (
            none)))) (
      some ((y26.1, (y40.1, (y41.1, ()))), y42.2)))

noncomputable def spec_l01Src_l03Count (N : Nat) (a0 : List (Int) × Int × Int × Int × Unit) : Option (Int × List Int × Int × Int × Int × Unit) :=
  bindO (spec_l01Src_one N a0 15) fun y5 =>
  ifB y5.1 (
    bindO (spec_l01Src_n N y5.2 4) fun y6 =>
    bindO (idx ([(-1), 0, 1000, 1001] : List Int) y6.1) fun y7 =>
    bindO (idx ([(-1), 0, 1000, 1001] : List Int) y6.1) fun y8 =>
    some (y8, y6.2)) (
    bindO (spec_l01Src_n N y5.2 4) fun y9 =>
    some (y9.1, y9.2))

noncomputable def spec_l03Four (N : Nat) (a0 : List (Int)) : Option ((List Int × Int × Int × Unit) × Int × Int × Int) :=
  bindO (spec_l01Source N a0) fun y9 =>
  bindO (spec_l01Src_l02Buf N y9) fun y10 =>
  bindO (spec_l01Src_n N y10.2 11) fun y11 =>
  bindO (spec_l01Src_one N y11.2 20) fun y12 =>
  ifB y12.1 (
    bindO (spec_l01Src_n N y12.2 2) fun y13 =>
    bindO (spec_l01Src_l03Count N y13.2) fun y14 =>
    bindO (spec_l01Src_point N y14.2) fun y15 =>
    some (y10.1, (pMul Go.IntKind.i64 12 y13.1), y14.1, y15.1)) (
    bindO (spec_l01Src_l03Count N y12.2) fun y16 =>
    bindO (spec_l01Src_point N y16.2) fun y17 =>
    some (y10.1, (pAdd Go.IntKind.i64 1 y11.1), y16.1, y17.1))

noncomputable def spec_DrawMotion (N : Nat) (a0 : List (Int)) : Option ((List Int × Int × Int × Unit) × Int × Int × Int) :=
  bindO (spec_l03Four N a0) fun y1 =>
  some (y1.1, y1.2.1, y1.2.2.1, y1.2.2.2)

noncomputable def impl_ownBuf (N : Nat) (a0 : List (Int) × Int × Int × Unit) : Option (List Int × Int × Int × Unit) :=
  bindO (slices_Clone_Sint64_int64 N a0.1) fun y1 =>
  some (y1, (a0.2.1, (a0.2.2.1, ())))

noncomputable def impl_BufMove (N : Nat) (a0 : List (Int) × Int × Int × Unit) (a1 : Int) (a2 : Int) (a3 : Int) : Option (List Int × Int × Int × Unit) :=
  bindO (impl_ownBuf N a0) fun y2 =>
  bindO (impl_Motion N a0 a1 a2 a3) fun y3 =>
  ifB (pGe y3 0) (
    some (y2.1, (y3, y2.2.2))) (
    some y2)

noncomputable def laws_lwBuf (N : Nat) (a0 : List (Int) × Int × Int × Unit) (a1 : List (Int) × Int × Int × Unit) : Option (Bool) :=
  bindO (laws_lwSame N a0.1 a1.1) fun y3 =>
  bindO (
    ifB y3 (
      some (pEq a0.2.1 a1.2.1)) (
      some false)) fun y4 =>
  bindO (
    ifB y4 (
      some (pEq a0.2.2.1 a1.2.2.1)) (
      some false)) fun y5 =>
  some y5

noncomputable def laws_FnMotions.l16 {R : Type} (N : Nat) (d : Int × Int × Int × Int × Int × (List Int × Int × Int × Unit) × (List Int × Int × Int × Unit) × Unit) (kn : Int × Int × Int × Int × Int × (List Int × Int × Int × Unit) × (List Int × Int × Int × Unit) × Unit → Option R) (kx : Int × (List Int × Int × Int × Unit) × (List Int × Int × Int × Unit) × Unit → Option R) : Option R :=
  let x37 := d.1;
  let x38 := d.2.1;
  let x39 := d.2.2.1;
  let x40 := d.2.2.2.1;
  let x41 := d.2.2.2.2.1;
  let x42 := d.2.2.2.2.2.1;
  let x43 := d.2.2.2.2.2.2.1;
    ifB (pLt x41 x38) (
      bindO (impl_BufMove N x43 x37 1 x39) fun y44 =>
      kn (x37, x38, x39, x40, (pAdd Go.IntKind.i64 x41 1), x42, y44, ())) (
      kx (x40, x42, x43, ()))
noncomputable def laws_FnMotions (N : Nat) (a0 : List (Int)) : Option (Bool) :=
  ifB (pGt (pLen a0) 1048576) (
    some true) (
    bindO (spec_DrawMotion N a0) fun y30 =>
    bindO (spec_Motion N y30.1 y30.2.1 y30.2.2.1 y30.2.2.2) fun y31 =>
    bindO (impl_Motion N y30.1 y30.2.1 y30.2.2.1 y30.2.2.2) fun y32 =>
    ifB (pNe y32 y31) (
      some false) (
      ifB (pLt y31 0) (
        bindO (impl_BufMove N y30.1 y30.2.1 y30.2.2.1 y30.2.2.2) fun y33 =>
        bindO (laws_lwBuf N y33 y30.1) fun y34 =>
        some y34) (
        ifB (pGt y32 (pLen y30.1.1)) (
          some false) (
          bindO (
            ifB (pEq y30.2.1 7) (
              some true) (
              some (pEq y30.2.1 8))) fun y35 =>
          ifB y35 (
            bindO (impl_BufMove N y30.1 y30.2.1 y30.2.2.1 y30.2.2.2) fun y36 =>
            some (pEq y36.2.1 y32)) (
            loopP (laws_FnMotions.l16 N) N (y30.2.1, y30.2.2.1, y30.2.2.2, y32, 0, y30.1, y30.1, ()) (
              fun d =>
              let x45 := d.1;
              let x46 := d.2.1;
              let x47 := d.2.2.1;
              bindO (
                ifB (pEq x47.2.1 x45) (
                  bindO (laws_lwSame N x47.1 x46.1) fun y49 =>
                  some y49) (
                  some false)) fun y48 =>
              bindO (
                ifB y48 (
                  some (pEq x47.2.2.1 x46.2.2.1)) (
                  some false)) fun y50 =>
              some y50))))))

end Go.AE.F
