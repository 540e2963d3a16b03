/- Functions as they are printed out of the program: plain Lean, nothing is claimed here. -/
import Derived.Test.YtjofefnjigmnlaaF7
namespace Go.AE.F
open Go.AE
noncomputable def spec_l01Src_l06Line (N : Nat) (a0 : List (Int) × Int × Int × Int × Unit) : Option (List Int × List Int × Int × Int × Int × Unit) :=
  bindO (spec_l01Src_pick N a0 [(ByteArray.mk #[108, 115]), (ByteArray.mk #[108, 115, 32, 45, 108]), (ByteArray.mk #[99, 100, 32, 97]), (ByteArray.mk #[99, 100]), (ByteArray.mk #[109, 97, 107, 101]), (ByteArray.mk #[109, 97, 107, 101, 32, 120]), (ByteArray.mk #[108])]) fun y2 =>
  bindO (spec_l01Points N y2.1) fun y3 =>
  some (y3, y2.2)

noncomputable def spec_l01Src_point (N : Nat) (a0 : List (Int) × Int × Int × Int × Unit) : Option (Int × List Int × Int × Int × Int × Unit) :=
  bindO (spec_l01Src_n N a0 14) fun y15 =>
  ifB (pEq y15.1 0) (
    some (32, y15.2)) (
    ifB (pEq y15.1 1) (
      some (10, y15.2)) (
      ifB (pEq y15.1 2) (
        bindO (spec_l01Src_n N y15.2 5) fun y16 =>
        bindO (idx ([0, 9, 27, 31, 127] : List Int) y16.1) fun y17 =>
        bindO (idx ([0, 9, 27, 31, 127] : List Int) y16.1) fun y18 =>
        some (y18, y16.2)) (
        ifB (pEq y15.1 3) (
          bindO (spec_l01Src_n N y15.2 20) fun y19 =>
          bindO (idx ([768, 879, 880, 4352, 4447, 4448, 11903, 11904, 42191, 42192, 44032, 55203, 63744, 64255, 65281, 65376, 65377, 127744, 129791, 129792] : List Int) y19.1) fun y20 =>
          bindO (idx ([768, 879, 880, 4352, 4447, 4448, 11903, 11904, 42191, 42192, 44032, 55203, 63744, 64255, 65281, 65376, 65377, 127744, 129791, 129792] : List Int) y19.1) fun y21 =>
          some (y21, y19.2)) (
          ifB (pEq y15.1 4) (
            bindO (spec_l01Src_n N y15.2 8) fun y22 =>
            bindO (idx ([233, 960, 8364, 65533, 1114111, 65535, 55295, 57344] : List Int) y22.1) fun y23 =>
            bindO (idx ([233, 960, 8364, 65533, 1114111, 65535, 55295, 57344] : List Int) y22.1) fun y24 =>
            some (y24, y22.2)) (
            ifB (pEq y15.1 5) (
              bindO (spec_l01Src_n N y15.2 5) fun y25 =>
              bindO (idx ([46, 44, 45, 40, 36] : List Int) y25.1) fun y26 =>
              bindO (idx ([46, 44, 45, 40, 36] : List Int) y25.1) fun y27 =>
              some (y27, y25.2)) (
              ifB (pEq y15.1 6) (
                bindO (spec_l01Src_n N y15.2 10) fun y28 =>
                some ((pAdd Go.IntKind.i64 48 y28.1), y28.2)) (
                bindO (spec_l01Src_n N y15.2 6) fun y29 =>
                some ((pAdd Go.IntKind.i64 97 y29.1), y29.2))))))))

noncomputable def spec_l01Src_points.l2 {R : Type} (N : Nat) (d : Int × (List Int × Int × Int × Int × Unit) × List Int × Unit) (kn : Int × (List Int × Int × Int × Int × Unit) × List Int × Unit → Option R) (kx : (List Int × Int × Int × Int × Unit) × List Int × Unit → Option R) : Option R :=
  let x13 := d.1;
  let x14 := d.2.1;
  let x15 := d.2.2.1;
    ifB (pGt x13 0) (
      bindO (spec_l01Src_point N x14) fun y16 =>
      ifB (pFit x15 [y16.1]) (
        kn ((pSub Go.IntKind.i64 x13 1), y16.2, (pApp x15 [y16.1]), ())) (
        none)) (
      kx (x14, x15, ()))
noncomputable def spec_l01Src_points (N : Nat) (a0 : List (Int) × Int × Int × Int × Unit) (a1 : Int) : Option (List Int × List Int × Int × Int × Int × Unit) :=
  loopP (spec_l01Src_points.l2 N) N (a1, a0, [], ()) (
    fun d =>
    let x17 := d.1;
    let x18 := d.2.1;
    some (x18, x17))

noncomputable def spec_l01Src_l06Hist.l5 {R : Type} (N : Nat) (d : Int × (List Int × Int × Int × Int × Unit) × (List (List Int) × Int × List Int × Unit) × (List (List Int) × Int × List Int × Unit) × Unit) (kn : Int × (List Int × Int × Int × Int × Unit) × (List (List Int) × Int × List Int × Unit) × (List (List Int) × Int × List Int × Unit) × Unit → Option R) (kx : (List Int × Int × Int × Int × Unit) × (List (List Int) × Int × List Int × Unit) × (List (List Int) × Int × List Int × Unit) × Unit → Option R) : Option R :=
  let x61 := d.1;
  let x62 := d.2.1;
  let x63 := d.2.2.1;
  let x64 := d.2.2.2.1;
    ifB (pGt x61 0) (
      bindO (spec_l01Src_l06Line N x62) fun y65 =>
      ifB (pFit x64.1 [y65.1]) (
        kn ((pSub Go.IntKind.i64 x61 1), y65.2, x63, ((pApp x64.1 [y65.1]), x64.2), ())) (
        none)) (
      kx (x62, x63, x64, ()))
noncomputable def spec_l01Src_l06Hist (N : Nat) (a0 : List (Int) × Int × Int × Int × Unit) : Option ((List (List Int) × Int × List Int × Unit) × List Int × Int × Int × Int × Unit) :=
  bindO (spec_l01Src_n N a0 6) fun y58 =>
  bindO (spec_l01Src_one N y58.2 12) fun y59 =>
  ifB y59.1 (
    bindO (spec_l01Src_n N y59.2 3) fun y60 =>
    loopP (spec_l01Src_l06Hist.l5 N) N ((pAdd Go.IntKind.i64 29 y60.1), y60.2, ([], (0, ([], ()))), ([], (0, ([], ()))), ()) (
      fun d =>
      let x66 := d.1;
      let x67 := d.2.1;
      let x68 := d.2.2.1;
      bindO (spec_l01Src_n N x66 (pAdd Go.IntKind.i64 (pLen x68.1) 1)) fun y69 =>
      bindO (spec_l01Src_one N y69.2 2) fun y70 =>
      ifB y70.1 (
        bindO (spec_l01Src_n N y70.2 4) fun y71 =>
        bindO (spec_l01Src_points N y71.2 y71.1) fun y72 =>
        bindO (spec_l01Src_one N y72.2 20) fun y73 =>
        ifB y73.1 (
          bindO (spec_l01Src_n N y73.2 3) fun y74 =>
          ifB (pEq y74.1 0) (
            bindO (spec_l01Src_n N y74.2 2) fun y75 =>
            bindO (idx [(-1), (pAdd Go.IntKind.i64 (pLen x68.1) 1)] y75.1) fun y76 =>
            bindO (idx [(-1), (pAdd Go.IntKind.i64 (pLen x68.1) 1)] y75.1) fun y77 =>
            some ((x68.1, (y77, (y72.1, x68.2.2.2))), y75.2)) (
            ifB (pEq y74.1 1) (
              ifB (pFit x68.1 [[]]) (
                some (((pApp x68.1 [[]]), ((pLen x68.1), (y72.1, x68.2.2.2))), y74.2)) (
                none)) (
              some ((x68.1, ((pLen x68.1), ([(-1)], x68.2.2.2))), y74.2)))) (
          some ((x68.1, ((pLen x68.1), (y72.1, x68.2.2.2))), y73.2))) (
        bindO (spec_l01Src_n N y70.2 4) fun y78 =>
        bindO (spec_l01Src_points N y78.2 y78.1) fun y79 =>
        bindO (spec_l01Src_one N y79.2 20) fun y80 =>
        ifB y80.1 (
          bindO (spec_l01Src_n N y80.2 3) fun y81 =>
          ifB (pEq y81.1 0) (
            bindO (spec_l01Src_n N y81.2 2) fun y82 =>
            bindO (idx [(-1), (pAdd Go.IntKind.i64 (pLen x68.1) 1)] y82.1) fun y83 =>
            bindO (idx [(-1), (pAdd Go.IntKind.i64 (pLen x68.1) 1)] y82.1) fun y84 =>
            some ((x68.1, (y84, (y79.1, x68.2.2.2))), y82.2)) (
            ifB (pEq y81.1 1) (
              ifB (pFit x68.1 [[]]) (
                some (((pApp x68.1 [[]]), (y69.1, (y79.1, x68.2.2.2))), y81.2)) (
                none)) (
              some ((x68.1, (y69.1, ([(-1)], x68.2.2.2))), y81.2)))) (
          some ((x68.1, (y69.1, (y79.1, x68.2.2.2))), y80.2))))) (
    loopP (spec_l01Src_l06Hist.l5 N) N (y58.1, y59.2, ([], (0, ([], ()))), ([], (0, ([], ()))), ()) (
      fun d =>
      let x90 := d.1;
      let x91 := d.2.1;
      let x92 := d.2.2.1;
      bindO (spec_l01Src_n N x90 (pAdd Go.IntKind.i64 (pLen x92.1) 1)) fun y93 =>
      bindO (spec_l01Src_one N y93.2 2) fun y94 =>
      ifB y94.1 (
        bindO (spec_l01Src_n N y94.2 4) fun y95 =>
        bindO (spec_l01Src_points N y95.2 y95.1) fun y96 =>
        bindO (spec_l01Src_one N y96.2 20) fun y97 =>
        ifB y97.1 (
          bindO (spec_l01Src_n N y97.2 3) fun y98 =>
          ifB (pEq y98.1 0) (
            bindO (spec_l01Src_n N y98.2 2) fun y99 =>
            bindO (idx [(-1), (pAdd Go.IntKind.i64 (pLen x92.1) 1)] y99.1) fun y100 =>
            bindO (idx [(-1), (pAdd Go.IntKind.i64 (pLen x92.1) 1)] y99.1) fun y101 =>
            some ((x92.1, (y101, (y96.1, x92.2.2.2))), y99.2)) (
            ifB (pEq y98.1 1) (
              ifB (pFit x92.1 [[]]) (
                some (((pApp x92.1 [[]]), ((pLen x92.1), (y96.1, x92.2.2.2))), y98.2)) (
                none)) (
              some ((x92.1, ((pLen x92.1), ([(-1)], x92.2.2.2))), y98.2)))) (
          some ((x92.1, ((pLen x92.1), (y96.1, x92.2.2.2))), y97.2))) (
        bindO (spec_l01Src_n N y94.2 4) fun y102 =>
        bindO (spec_l01Src_points N y102.2 y102.1) fun y103 =>
        bindO (spec_l01Src_one N y103.2 20) fun y104 =>
        ifB y104.1 (
          bindO (spec_l01Src_n N y104.2 3) fun y105 =>
          ifB (pEq y105.1 0) (
            bindO (spec_l01Src_n N y105.2 2) fun y106 =>
            bindO (idx [(-1), (pAdd Go.IntKind.i64 (pLen x92.1) 1)] y106.1) fun y107 =>
            bindO (idx [(-1), (pAdd Go.IntKind.i64 (pLen x92.1) 1)] y106.1) fun y108 =>
            some ((x92.1, (y108, (y103.1, x92.2.2.2))), y106.2)) (
            ifB (pEq y105.1 1) (
              ifB (pFit x92.1 [[]]) (
                some (((pApp x92.1 [[]]), (y93.1, (y103.1, x92.2.2.2))), y105.2)) (
                none)) (
              some ((x92.1, (y93.1, ([(-1)], x92.2.2.2))), y105.2)))) (
          some ((x92.1, (y93.1, (y103.1, x92.2.2.2))), y104.2)))))

noncomputable def spec_l01Src_some (N : Nat) (a0 : List (Int) × Int × Int × Int × Unit) : Option (List Int × List Int × Int × Int × Int × Unit) :=
  bindO (spec_l01Src_n N a0 (pAdd Go.IntKind.i64 12 a0.2.2.2.1)) fun y13 =>
  bindO (spec_l01Src_points N y13.2 y13.1) fun y14 =>
  bindO (spec_l01Src_one N y14.2 50) fun y15 =>
  ifB y15.1 (
    bindO (spec_l01Src_n N y15.2 3) fun y16 =>
    bindO (spec_l01Src_points N y16.2 (pAdd Go.IntKind.i64 299 y16.1)) fun y17 =>
    bindO (spec_l01Src_one N y17.2 20) fun y18 =>
    ifB y18.1 (
      bindO (spec_l01Src_n N y18.2 5) fun y19 =>
      bindO (idx ([(-1), 55296, 57343, 1114112, 1099511627776] : List Int) y19.1) fun y20 =>
      bindO (idx ([(-1), 55296, 57343, 1114112, 1099511627776] : List Int) y19.1) fun y21 =>
      ifB (pFit y17.1 [y21]) (
        some ((pApp y17.1 [y21]), y19.2)) (
        none)) (
      some (y17.1, y18.2))) (
    bindO (spec_l01Src_one N y15.2 20) fun y22 =>
    ifB y22.1 (
      bindO (spec_l01Src_n N y22.2 5) fun y23 =>
      bindO (idx ([(-1), 55296, 57343, 1114112, 1099511627776] : List Int) y23.1) fun y24 =>
      bindO (idx ([(-1), 55296, 57343, 1114112, 1099511627776] : List Int) y23.1) fun y25 =>
      ifB (pFit y14.1 [y25]) (
        some ((pApp y14.1 [y25]), y23.2)) (
        none)) (
      some (y14.1, y22.2)))

noncomputable def spec_DrawHistAdd (N : Nat) (a0 : List (Int)) : Option ((List (List Int) × Int × List Int × Unit) × List Int) :=
  bindO (spec_l01Source N a0) fun y5 =>
  bindO (spec_l01Src_l06Hist N y5) fun y6 =>
  bindO (spec_l01Src_one N y6.2 4) fun y7 =>
  ifB y7.1 (
    bindO (spec_l01Src_some N y7.2) fun y8 =>
    some (y6.1, y8.1)) (
    bindO (spec_l01Src_l06Line N y7.2) fun y9 =>
    some (y6.1, y9.1))

noncomputable def spec_l04Items.l4 {R : Type} (N : Nat) (d : List (List Int) × Int × Unit) (kn : List (List Int) × Int × Unit → Option R) (kx : (Unit) ⊕ (Bool × Unit) → Option R) : Option R :=
  let x17 := d.1;
  let x18 := d.2.1;
    ifB (pLt x18 (pLen x17)) (
      bindO (idx x17 x18) fun y19 =>
      bindO (
        ifB (pEq (pLen y19) 0) (
          some true) (
          bindO (idx x17 x18) fun y21 =>
          bindO (spec_PointsRight N y21) fun y22 =>
          some (pNot y22))) fun y20 =>
      ifB y20 (
        kx (.inr (false, ()))) (
        kn (x17, (pAdd Go.IntKind.i64 x18 1), ()))) (
      kx (.inl (())))
noncomputable def spec_l04Items (N : Nat) (a0 : List (List (Int))) (a1 : Int) : Option (Bool) :=
  ifB (pGt (pLen a0) a1) (
    some false) (
    loopP (spec_l04Items.l4 N) N (a0, 0, ()) (
      onSum (fun d =>
        some true) (
      fun d =>
      let x23 := d.1;
      some x23)))

noncomputable def spec_HistRight (N : Nat) (a0 : List (List (Int)) × Int × List (Int) × Unit) : Option (Bool) :=
  bindO (spec_l04Items N a0.1 30) fun y5 =>
  bindO (
    ifB y5 (
      some (pGe a0.2.1 0)) (
      some false)) fun y6 =>
  bindO (
    ifB y6 (
      some (pLe a0.2.1 (pLen a0.1))) (
      some false)) fun y7 =>
  bindO (
    ifB y7 (
      bindO (spec_PointsRight N a0.2.2.1) fun y9 =>
      some y9) (
      some false)) fun y8 =>
  some y8

noncomputable def impl_ownLists.l3 {R : Type} (N : Nat) (d : List (List Int) × Int × Int × List (List Int) × Unit) (kn : List (List Int) × Int × Int × List (List Int) × Unit → Option R) (kx : List (List Int) × Unit → Option R) : Option R :=
  let x15 := d.1;
  let x16 := d.2.1;
  let x17 := d.2.2.1;
  let x18 := d.2.2.2.1;
    ifB (pLt x17 x16) (
      bindO (idx x15 x17) fun y19 =>
      bindO (slices_Clone_Sint64_int64 N y19) fun y20 =>
      ifB (pFit x18 [y20]) (
        kn (x15, x16, (pAdd Go.IntKind.i64 x17 1), (pApp x18 [y20]), ())) (
        none)) (
      kx (x18, ()))
noncomputable def impl_ownLists (N : Nat) (a0 : List (List (Int))) : Option (List (List Int)) :=
  loopP (impl_ownLists.l3 N) N (a0, (pLen a0), 0, [], ()) (
    fun d =>
    let x21 := d.1;
    some x21)

noncomputable def impl_ownHist (N : Nat) (a0 : List (List (Int)) × Int × List (Int) × Unit) : Option (List (List Int) × Int × List Int × Unit) :=
  bindO (impl_ownLists N a0.1) fun y2 =>
  bindO (slices_Clone_Sint64_int64 N a0.2.2.1) fun y3 =>
  some (y2, (a0.2.1, (y3, ())))

noncomputable def impl_isItem (N : Nat) (a0 : List (Int)) : Option (Bool) :=
  bindO (
    ifB (pGt (pLen a0) 0) (
      bindO (impl_PointsRight N a0) fun y3 =>
      some y3) (
      some false)) fun y2 =>
  some y2

noncomputable def impl_areItems_c1 (N : Nat) (a0 : List (Int)) : Option (Bool) :=
  bindO (impl_isItem N a0) fun y1 =>
  some (pNot y1)

noncomputable def slices_IndexFunc_S_Sint64__Sint64__impl_areItems_c1.l2 {R : Type} (N : Nat) (d : List (List Int) × Int × Int × Unit) (kn : List (List Int) × Int × Int × Unit → Option R) (kx : (Unit) ⊕ (Int × Unit) → Option R) : Option R :=
  let x13 := d.1;
  let x14 := d.2.1;
  let x15 := d.2.2.1;
    ifB (pLt x15 x14) (
      bindO (idx x13 x15) fun y16 =>
      bindO (impl_areItems_c1 N y16) fun y17 =>
      ifB y17 (
        kx (.inr (x15, ()))) (
        kn (x13, x14, (pAdd Go.IntKind.i64 x15 1), ()))) (
      kx (.inl (())))
noncomputable def slices_IndexFunc_S_Sint64__Sint64__impl_areItems_c1 (N : Nat) (a0 : List (List (Int))) : Option (Int) :=
  loopP (slices_IndexFunc_S_Sint64__Sint64__impl_areItems_c1.l2 N) N (a0, (pLen a0), 0, ()) (
    onSum (fun d =>
      some (-1)) (
    fun d =>
    let x18 := d.1;
    some x18))

noncomputable def slices_ContainsFunc_S_Sint64__Sint64__impl_areItems_c1 (N : Nat) (a0 : List (List (Int))) : Option (Bool) :=
  bindO (slices_IndexFunc_S_Sint64__Sint64__impl_areItems_c1 N a0) fun y1 =>
  some (pGe y1 0)

noncomputable def impl_areItems (N : Nat) (a0 : List (List (Int))) : Option (Bool) :=
  bindO (slices_ContainsFunc_S_Sint64__Sint64__impl_areItems_c1 N a0) fun y1 =>
  some (pNot y1)

noncomputable def impl_size_SSint64 (N : Nat) (a0 : List (List (Int))) : Option (Int) :=
  some (pLen a0)

noncomputable def impl_HistRight (N : Nat) (a0 : List (List (Int)) × Int × List (Int) × Unit) : Option (Bool) :=
  ifB (pLe (pLen a0.1) 30) (
    bindO (impl_areItems N a0.1) fun y4 =>
    ifB y4 (
      bindO (impl_size_SSint64 N a0.1) fun y5 =>
      bindO (impl_within N a0.2.1 0 y5) fun y6 =>
      ifB y6 (
        bindO (impl_PointsRight N a0.2.2.1) fun y7 =>
        some y7) (
        some false)) (
      some false)) (
    some false)

noncomputable def impl_HistAdd (N : Nat) (a0 : List (List (Int)) × Int × List (Int) × Unit) (a1 : List (Int)) : Option (List (List Int) × Int × List Int × Unit) :=
  bindO (impl_isMany N (pLen a1)) fun y12 =>
  ifB y12 (
    some ([], (0, ([], ())))) (
    bindO (impl_ownHist N a0) fun y13 =>
    bindO (impl_HistRight N a0) fun y14 =>
    bindO (
      ifB (pNot y14) (
        some true) (
        bindO (impl_PointsRight N a1) fun y16 =>
        some (pNot y16))) fun y15 =>
    ifB y15 (
      some y13) (
      bindO (
        ifB (pGt (pLen a1) 0) (
          bindO (
            ifB (pLt (pSub Go.IntKind.i64 (pLen a0.1) 1) 0) (
              some true) (
              bindO (idx a0.1 (pSub Go.IntKind.i64 (pLen a0.1) 1)) fun y19 =>
              bindO (slices_Equal_Sint64_int64 N a1 y19) fun y20 =>
              some (pNot y20))) fun y18 =>
          some y18) (
          some false)) fun y17 =>
      ifB y17 (
        bindO (slices_Clone_Sint64_int64 N a1) fun y21 =>
        ifB (pFit y13.1 [y21]) (
          ifB (pLe 0 (pMax (pSub Go.IntKind.i64 (pLen (pApp y13.1 [y21])) 30) 0)) (
            ifB (pLe (pMax (pSub Go.IntKind.i64 (pLen (pApp y13.1 [y21])) 30) 0) (pLen (pApp y13.1 [y21]))) (
              ifB (pLe (pLen (pApp y13.1 [y21])) (pLen (pApp y13.1 [y21]))) (
                bindO (impl_size_SSint64 N (sub (pApp y13.1 [y21]) (pMax (pSub Go.IntKind.i64 (pLen (pApp y13.1 [y21])) 30) 0) (pLen (pApp y13.1 [y21])))) fun y22 =>
                some ((sub (pApp y13.1 [y21]) (pMax (pSub Go.IntKind.i64 (pLen (pApp y13.1 [y21])) 30) 0) (pLen (pApp y13.1 [y21]))), (y22, ([], ())))) (
                none)) (
              none)) (
            none)) (
          none)) (
        bindO (impl_size_SSint64 N y13.1) fun y23 =>
        some (y13.1, (y23, ([], ()))))))

noncomputable def impl_HistLast (N : Nat) (a0 : List (List (Int)) × Int × List (Int) × Unit) : Option (List Int) :=
  bindO (impl_HistRight N a0) fun y4 =>
  bindO (
    ifB (pNot y4) (
      some true) (
      some (pEq (pLen a0.1) 0))) fun y5 =>
  ifB y5 (
    some []) (
    bindO (idx a0.1 (pSub Go.IntKind.i64 (pLen a0.1) 1)) fun y6 =>
    bindO (slices_Clone_Sint64_int64 N y6) fun y7 =>
    some y7)

noncomputable def laws_lwAt (N : Nat) (a0 : List (Int)) (a1 : Int) (a2 : Int) : Option (Int) :=
  bindO (
    ifB (pLe a2 1) (
      some true) (
      some (pEq (pLen a0) 0))) fun y2 =>
  ifB y2 (
    some 0) (
    ifB (pEq (pLen a0) 0) (
      none) (
      bindO (idx a0 (pRem a1 (pLen a0))) fun y3 =>
      ifB (pEq a2 0) (
        none) (
        some (pRem (pConv Go.IntKind.i64 y3) a2))))

noncomputable def spec_PointsOf (N : Nat) (a0 : ByteArray) : Option (List Int) :=
  ifB (pGt (pSize a0) 20000) (
    some []) (
    bindO (spec_l01Points N a0) fun y1 =>
    ifB (pGt (pLen y1) 300) (
      some []) (
      some y1))

noncomputable def impl_HistUp.l6 {R : Type} (N : Nat) (d : List Int × List Int × Int × (List (List Int) × Int × List Int × Unit) × ((List (List Int) × Int × List Int × Unit) × List Int × Int × Unit) × Unit) (kn : List Int × List Int × Int × (List (List Int) × Int × List Int × Unit) × ((List (List Int) × Int × List Int × Unit) × List Int × Int × Unit) × Unit → Option R) (kx : List Int × Int × (List (List Int) × Int × List Int × Unit) × ((List (List Int) × Int × List Int × Unit) × List Int × Int × Unit) × Unit → Option R) : Option R :=
  let x55 := d.1;
  let x56 := d.2.1;
  let x57 := d.2.2.1;
  let x58 := d.2.2.2.1;
  let x59 := d.2.2.2.2.1;
    bindO (
      ifB (pGe x57 0) (
        bindO (idx x58.1 x57) fun y61 =>
        bindO (impl_begins N y61 x56) fun y62 =>
        some (pNot y62)) (
        some false)) fun y60 =>
    ifB y60 (
      kn (x55, x56, (pSub Go.IntKind.i64 x57 1), x58, x59, ())) (
      kx (x55, x57, x58, x59, ()))
noncomputable def impl_HistUp (N : Nat) (a0 : List (List (Int)) × Int × List (Int) × Unit) (a1 : List (Int)) (a2 : List (Int)) : Option ((List (List Int) × Int × List Int × Unit) × List Int × Int × Unit) :=
  bindO (impl_isMany N (pLen a1)) fun y47 =>
  bindO (
    ifB y47 (
      some true) (
      bindO (impl_isMany N (pLen a2)) fun y49 =>
      some y49)) fun y48 =>
  ifB y48 (
    some (([], (0, ([], ()))), ([], (2, ())))) (
    bindO (impl_HistRight N a0) fun y50 =>
    bindO (
      ifB (pNot y50) (
        some true) (
        bindO (impl_PointsRight N a1) fun y52 =>
        some (pNot y52))) fun y51 =>
    bindO (
      ifB y51 (
        some true) (
        bindO (impl_PointsRight N a2) fun y54 =>
        some (pNot y54))) fun y53 =>
    ifB y53 (
      some (([], (0, ([], ()))), ([], (1, ())))) (
      loopP (impl_HistUp.l6 N) N (a1, a2, (pSub Go.IntKind.i64 a0.2.1 1), a0, (([], (0, ([], ()))), ([], (0, ()))), ()) (
        fun d =>
        let x63 := d.1;
        let x64 := d.2.1;
        let x65 := d.2.2.1;
        let x66 := d.2.2.2.1;
        ifB (pLt x64 0) (
          some (([], (0, ([], ()))), ([], (4, ())))) (
          bindO (impl_ownHist N x65) fun y67 =>
          bindO (impl_size_SSint64 N x65.1) fun y68 =>
          ifB (pEq x65.2.1 y68) (
            bindO (slices_Clone_Sint64_int64 N x63) fun y69 =>
            bindO (idx x65.1 x64) fun y70 =>
            bindO (slices_Clone_Sint64_int64 N y70) fun y71 =>
            some ((y67.1, (x64, (y69, y67.2.2.2))), (y71, (0, ())))) (
            bindO (idx x65.1 x64) fun y72 =>
            bindO (slices_Clone_Sint64_int64 N y72) fun y73 =>
            some ((y67.1, (x64, y67.2.2)), (y73, (0, ()))))))))

noncomputable def impl_HistDown.l9 {R : Type} (N : Nat) (d : List Int × List Int × (List (List Int) × Int × List Int × Unit) × ((List (List Int) × Int × List Int × Unit) × List Int × Int × Unit) × (List (List Int) × Int × List Int × Unit) × Unit) (kn : List Int × List Int × (List (List Int) × Int × List Int × Unit) × ((List (List Int) × Int × List Int × Unit) × List Int × Int × Unit) × (List (List Int) × Int × List Int × Unit) × Unit → Option R) (kx : List Int × ((List (List Int) × Int × List Int × Unit) × List Int × Int × Unit) × (List (List Int) × Int × List Int × Unit) × Unit → Option R) : Option R :=
  let x42 := d.1;
  let x43 := d.2.1;
  let x44 := d.2.2.1;
  let x45 := d.2.2.2.1;
  let x46 := d.2.2.2.2.1;
    bindO (impl_size_SSint64 N x44.1) fun y47 =>
    ifB (pLt x46.2.1 y47) (
      bindO (idx x44.1 x46.2.1) fun y48 =>
      bindO (impl_begins N y48 x42) fun y49 =>
      ifB y49 (
        bindO (idx x44.1 x46.2.1) fun y50 =>
        kx (y50, x45, x46, ())) (
        kn (x42, x43, x44, x45, (x46.1, ((pAdd Go.IntKind.i64 x46.2.1 1), x46.2.2)), ()))) (
      kx (x43, x45, x46, ()))
noncomputable def impl_HistDown (N : Nat) (a0 : List (List (Int)) × Int × List (Int) × Unit) (a1 : List (Int)) : Option ((List (List Int) × Int × List Int × Unit) × List Int × Int × Unit) :=
  bindO (impl_isMany N (pLen a1)) fun y36 =>
  ifB y36 (
    some (([], (0, ([], ()))), ([], (2, ())))) (
    bindO (impl_HistRight N a0) fun y37 =>
    bindO (
      ifB (pNot y37) (
        some true) (
        bindO (impl_PointsRight N a1) fun y39 =>
        some (pNot y39))) fun y38 =>
    ifB y38 (
      some (([], (0, ([], ()))), ([], (1, ())))) (
      bindO (impl_size_SSint64 N a0.1) fun y40 =>
      ifB (pEq a0.2.1 y40) (
        some (([], (0, ([], ()))), ([], (4, ())))) (
        bindO (impl_ownHist N a0) fun y41 =>
        loopP (impl_HistDown.l9 N) N (a1, a0.2.2.1, a0, (([], (0, ([], ()))), ([], (0, ()))), (y41.1, ((pAdd Go.IntKind.i64 y41.2.1 1), y41.2.2)), ()) (
          fun d =>
          let x51 := d.1;
          let x52 := d.2.1;
          let x53 := d.2.2.1;
          bindO (slices_Clone_Sint64_int64 N x51) fun y54 =>
          some (x53, (y54, (0, ())))))))

noncomputable def laws_FnHistory (N : Nat) (a0 : List (Int)) (a1 : List (Int)) : Option (Bool) :=
  bindO (
    ifB (pGt (pLen a0) 1048576) (
      some true) (
      some (pGt (pLen a1) 1048576))) fun y23 =>
  ifB y23 (
    some true) (
    bindO (spec_DrawHistAdd N a0) fun y24 =>
    bindO (spec_HistRight N y24.1) fun y25 =>
    bindO (
      ifB (pNot y25) (
        some true) (
        bindO (spec_PointsRight N y24.2) fun y27 =>
        some (pNot y27))) fun y26 =>
    bindO (
      ifB y26 (
        some true) (
        some (pEq (pLen y24.2) 0))) fun y28 =>
    ifB y28 (
      some true) (
      bindO (laws_lwCopy N y24.2) fun y29 =>
      bindO (impl_HistAdd N y24.1 y29) fun y30 =>
      bindO (impl_HistRight N y30) fun y31 =>
      bindO (
        ifB (pNot y31) (
          some true) (
          bindO (impl_HistLast N y30) fun y33 =>
          bindO (laws_lwSame N y33 y24.2) fun y34 =>
          some (pNot y34))) fun y32 =>
      bindO (
        ifB y32 (
          some true) (
          some (pNe y30.2.1 (pLen y30.1)))) fun y35 =>
      ifB y35 (
        some false) (
        bindO (laws_lwAt N a1 0 (pAdd Go.IntKind.i64 (pLen a1) 1)) fun y36 =>
        ifB (pLe 0 0) (
          ifB (pLe 0 y36) (
            ifB (pLe y36 (pLen a1)) (
              bindO (spec_PointsOf N (bytesOf (sub a1 0 y36))) fun y37 =>
              bindO (laws_lwCopy N y37) fun y38 =>
              bindO (impl_HistUp N y30 y38 []) fun y39 =>
              bindO (
                ifB (pNe y39.2.2.1 0) (
                  some true) (
                  bindO (laws_lwSame N y39.2.1 y24.2) fun y41 =>
                  some (pNot y41))) fun y40 =>
              ifB y40 (
                some false) (
                bindO (impl_HistDown N y39.1 []) fun y42 =>
                bindO (
                  ifB (pEq y42.2.2.1 0) (
                    bindO (laws_lwSame N y42.2.1 y37) fun y44 =>
                    some y44) (
                    some false)) fun y43 =>
                bindO (
                  ifB y43 (
                    some (pEq y42.1.2.1 y30.2.1)) (
                    some false)) fun y45 =>
                some y45)) (
              none)) (
            none)) (
          none))))

end Go.AE.F
