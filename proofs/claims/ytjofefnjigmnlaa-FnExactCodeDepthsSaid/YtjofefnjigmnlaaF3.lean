/- Functions as they are printed out of the program: plain Lean, nothing is claimed here. -/
import Derived.Test.YtjofefnjigmnlaaF2
namespace Go.AE.F
open Go.AE
noncomputable def spec_CompCommon.l10 {R : Type} (N : Nat) (d : List (List Int) × Int × List Int × List Int × Unit) (kn : List (List Int) × Int × List Int × List Int × Unit → Option R) (kx : List (List Int) × Int × List Int × List Int × Unit → Option R) : Option R :=
  let x367 := d.1;
  let x368 := d.2.1;
  let x369 := d.2.2.1;
  let x370 := d.2.2.2.1;
    bindO (idx x369 x368) fun y371 =>
    bindO (idx x369 x368) fun y372 =>
    bindO (idx x367 y372) fun y373 =>
    bindO (spec_l06Begins N y373 x370) fun y374 =>
    ifB (pNot y374) (
      ifB (pLe 0 0) (
        ifB (pLe 0 (pSub Go.IntKind.i64 (pLen x370) 1)) (
          ifB (pLe (pSub Go.IntKind.i64 (pLen x370) 1) (pLen x370)) (
            kn (x367, x368, x369, (sub x370 0 (pSub Go.IntKind.i64 (pLen x370) 1)), ())) (
            none)) (
          none)) (
        none)) (
      kx (x367, x368, x369, x370, ()))
noncomputable def spec_CompCommon.l8 {R : Type} (N : Nat) (d : List (List Int) × Int × List Int × List Int × Unit) (kn : List (List Int) × Int × List Int × List Int × Unit → Option R) (kx : List Int × Unit → Option R) : Option R :=
  let x319 := d.1;
  let x320 := d.2.1;
  let x321 := d.2.2.1;
  let x322 := d.2.2.2.1;
    ifB (pLt x320 (pLen x321)) (
      loopP (spec_CompCommon.l10 N) N (x319, x320, x321, x322, ()) (
        fun d =>
        let x375 := d.1;
        let x376 := d.2.1;
        let x377 := d.2.2.1;
        let x378 := d.2.2.2.1;
        kn (x375, (pAdd Go.IntKind.i64 x376 1), x377, x378, ()))) (
      kx (x322, ()))
noncomputable def spec_CompCommon (N : Nat) (a0 : List (List (Int))) (a1 : List (Int)) : Option (List Int) :=
  bindO (
    ifB (pGt (pLen a0) 400) (
      some true) (
      some (pGt (pLen a1) 400))) fun y190 =>
  bindO (
    ifB y190 (
      some true) (
      bindO (spec_PointsRight N a1) fun y192 =>
      some (pNot y192))) fun y191 =>
  ifB y191 (
    some []) (
    bindO (spec_CompMatch N a0 a1) fun y193 =>
    ifB (pEq (pLen y193) 0) (
      bindO (spec_l01Copy N a1) fun y194 =>
      some y194) (
      bindO (idx y193 0) fun y195 =>
      bindO (idx y193 0) fun y196 =>
      bindO (idx a0 y196) fun y197 =>
      bindO (spec_l01Copy N y197) fun y198 =>
      loopP (spec_CompCommon.l8 N) N (a0, 1, y193, y198, ()) (
        fun d =>
        let x379 := d.1;
        some x379)))

noncomputable def impl_common_c1 (N : Nat) (a0 : List (Int)) (a1 : List (List (Int))) (a2 : Int) : Option (Bool) :=
  bindO (idx a1 0) fun y2 =>
  ifB (pLe 0 0) (
    ifB (pLe 0 a2) (
      ifB (pLe a2 (pLen y2)) (
        bindO (impl_begins N a0 (sub y2 0 a2)) fun y3 =>
        some (pNot y3)) (
        none)) (
      none)) (
    none)

noncomputable def slices_IndexFunc_S_Sint64__Sint64__impl_common_c1.l2 {R : Type} (N : Nat) (d : List (List Int) × List (List Int) × Int × Int × Int × Unit) (kn : List (List Int) × List (List Int) × Int × Int × Int × Unit → Option R) (kx : (Unit) ⊕ (Int × Unit) → Option R) : Option R :=
  let x46 := d.1;
  let x47 := d.2.1;
  let x48 := d.2.2.1;
  let x49 := d.2.2.2.1;
  let x50 := d.2.2.2.2.1;
    ifB (pLt x50 x49) (
      bindO (idx x46 x50) fun y53 =>
      bindO (impl_common_c1 N y53 x47 x48) fun y54 =>
      ifB y54 (
        kx (.inr (x50, ()))) (
        kn (x46, x47, x48, x49, (pAdd Go.IntKind.i64 x50 1), ()))) (
      kx (.inl (())))
noncomputable def slices_IndexFunc_S_Sint64__Sint64__impl_common_c1 (N : Nat) (a0 : List (List (Int))) (a1 : List (List (Int))) (a2 : Int) : Option (Int) :=
  loopP (slices_IndexFunc_S_Sint64__Sint64__impl_common_c1.l2 N) N (a0, a1, a2, (pLen a0), 0, ()) (
    onSum (fun d =>
      some (-1)) (
    fun d =>
    let x55 := d.1;
    some x55))

noncomputable def slices_ContainsFunc_S_Sint64__Sint64__impl_common_c1 (N : Nat) (a0 : List (List (Int))) (a1 : List (List (Int))) (a2 : Int) : Option (Bool) :=
  bindO (slices_IndexFunc_S_Sint64__Sint64__impl_common_c1 N a0 a1 a2) fun y1 =>
  some (pGe y1 0)

noncomputable def impl_common.l5 {R : Type} (N : Nat) (d : List (List Int) × Int × Unit) (kn : List (List Int) × Int × Unit → Option R) (kx : List (List Int) × Int × Unit → Option R) : Option R :=
  let x47 := d.1;
  let x48 := d.2.1;
    bindO (slices_ContainsFunc_S_Sint64__Sint64__impl_common_c1 N x47 x47 x48) fun y49 =>
    ifB y49 (
      kn (x47, (pSub Go.IntKind.i64 x48 1), ())) (
      kx (x47, x48, ()))
noncomputable def impl_common (N : Nat) (a0 : List (List (Int))) (a1 : List (Int)) : Option (List Int) :=
  bindO (impl_matches N a0 a1) fun y27 =>
  ifB (pEq (pLen y27.1) 0) (
    some a1) (
    bindO (idx y27.1 0) fun y28 =>
    bindO (idx y27.1 0) fun y29 =>
    loopP (impl_common.l5 N) N (y27.1, (pLen y29), ()) (
      fun d =>
      let x50 := d.1;
      let x51 := d.2.1;
      bindO (idx x50 0) fun y52 =>
      bindO (idx x50 0) fun y53 =>
      ifB (pLe 0 0) (
        ifB (pLe 0 x51) (
          ifB (pLe x51 (pLen y53)) (
            some (sub y53 0 x51)) (
            none)) (
          none)) (
        none)))

noncomputable def impl_CompCommon (N : Nat) (a0 : List (List (Int))) (a1 : List (Int)) : Option (List Int) :=
  bindO (impl_isMany N (pLen a0)) fun y17 =>
  bindO (
    ifB y17 (
      some true) (
      bindO (impl_PointsRight N a1) fun y19 =>
      some (pNot y19))) fun y18 =>
  ifB y18 (
    some []) (
    bindO (impl_CandsRight N a0) fun y20 =>
    ifB (pNot y20) (
      bindO (slices_Clone_Sint64_int64 N a1) fun y21 =>
      some y21) (
      bindO (impl_common N a0 a1) fun y22 =>
      bindO (slices_Clone_Sint64_int64 N y22) fun y23 =>
      some y23))

noncomputable def laws_FnExactCompCommon (N : Nat) (a0 : List (List (Int))) (a1 : List (Int)) : Option (Bool) :=
  ifB (pGt (pLen a1) 1048576) (
    some true) (
    bindO (laws_szInt64SS N a0 1048576) fun y23 =>
    ifB (pLt y23 0) (
      some true) (
      bindO (laws_toInt64SS N a0) fun y24 =>
      bindO (laws_toInt64S N a1) fun y25 =>
      bindO (spec_CompCommon N y24 y25) fun y26 =>
      bindO (laws_toInt64SS N a0) fun y27 =>
      bindO (laws_toInt64S N a1) fun y28 =>
      bindO (impl_CompCommon N y27 y28) fun y29 =>
      bindO (laws_eqInt64S N y29 y26) fun y30 =>
      ifB (pNot y30) (
        some false) (
        bindO (laws_toInt64SS N a0) fun y31 =>
        bindO (laws_eqInt64SS N y27 y31) fun y32 =>
        ifB (pNot y32) (
          some false) (
          bindO (laws_toInt64S N a1) fun y33 =>
          bindO (laws_eqInt64S N y28 y33) fun y34 =>
          ifB (pNot y34) (
            some false) (
            bindO (laws_markInt64SS N y27 1) fun y35 =>
            bindO (laws_markInt64S N y28 y35.1) fun y36 =>
            bindO (
              ifB (pLt y36.1 0) (
                some true) (
                bindO (laws_eqInt64S N y29 y26) fun y38 =>
                some (pNot y38))) fun y37 =>
            ifB y37 (
              some false) (
              bindO (laws_markInt64S N y29 1) fun y39 =>
              bindO (laws_heldInt64S N y39.2 1) fun y40 =>
              ifB (pLt y40 0) (
                some false) (
                ifB (pNe y40 y39.1) (
                  some false) (
                  bindO (laws_toInt64SS N a0) fun y41 =>
                  bindO (laws_toInt64S N a1) fun y42 =>
                  bindO (impl_CompCommon N y41 y42) fun y43 =>
                  bindO (laws_eqInt64S N y43 y26) fun y44 =>
                  ifB (pNot y44) (
                    some false) (
                    bindO (laws_heldInt64S N y39.2 1) fun y45 =>
                    ifB (pLt y45 0) (
                      some false) (
                      ifB (pNe y45 y39.1) (
                        some false) (
                        some true)))))))))))

end Go.AE.F
