/- Functions as they are printed out of the program: plain Lean, nothing is claimed here. -/
import Derived.Test.YtjofefnjigmnlaaF5
namespace Go.AE.F
open Go.AE
noncomputable def spec_l01Source.l3 {R : Type} (N : Nat) (d : List Int × Int × (List Int × Int × Int × Int × Unit) × Unit) (kn : List Int × Int × (List Int × Int × Int × Int × Unit) × Unit → Option R) (kx : List Int × (List Int × Int × Int × Int × Unit) × Unit → Option R) : Option R :=
  let x13 := d.1;
  let x14 := d.2.1;
  let x15 := d.2.2.1;
    bindO (
      ifB (pLt x14 (pLen x13)) (
        some (pLt x14 64)) (
        some false)) fun y16 =>
    ifB y16 (
      bindO (idx x13 x14) fun y17 =>
      kn (x13, (pAdd Go.IntKind.i64 x14 1), (x15.1, (x15.2.1, ((pMul Go.IntKind.u64 (pXor Go.IntKind.u64 x15.2.2.1 (pConv Go.IntKind.u64 y17)) 1099511628211), x15.2.2.2))), ())) (
      kx (x13, x15, ()))
noncomputable def spec_l01Source (N : Nat) (a0 : List (Int)) : Option (List Int × Int × Int × Int × Unit) :=
  loopP (spec_l01Source.l3 N) N (a0, 0, (a0, (0, (88172645463325252, (0, ())))), ()) (
    fun d =>
    let x18 := d.1;
    let x19 := d.2.1;
    ifB (pEq 20 0) (
      none) (
      ifB (pGt (pQuo Go.IntKind.i64 (pLen x18) 20) 12) (
        some (x19.1, (x19.2.1, (x19.2.2.1, (12, x19.2.2.2.2))))) (
        some (x19.1, (x19.2.1, (x19.2.2.1, ((pQuo Go.IntKind.i64 (pLen x18) 20), x19.2.2.2.2)))))))

noncomputable def spec_l01Src_n (N : Nat) (a0 : List (Int) × Int × Int × Int × Unit) (a1 : Int) : Option (Int × List Int × Int × Int × Int × Unit) :=
  ifB (pLe a1 1) (
    some (0, a0)) (
    ifB (pLt a0.2.1 (pLen a0.1)) (
      bindO (idx a0.1 a0.2.1) fun y1 =>
      ifB (pLt 13 0) (
        none) (
        ifB (pLt 7 0) (
          none) (
          ifB (pLt 17 0) (
            none) (
            ifB (pLt 20 0) (
              none) (
              ifB (pEq (pConv Go.IntKind.u64 a1) 0) (
                none) (
                some ((pConv Go.IntKind.i64 (pRem (pAdd Go.IntKind.u64 (pConv Go.IntKind.u64 y1) (pShr Go.IntKind.u64 (pXor Go.IntKind.u64 (pXor Go.IntKind.u64 (pXor Go.IntKind.u64 a0.2.2.1 (pShl Go.IntKind.u64 a0.2.2.1 13)) (pShr Go.IntKind.u64 (pXor Go.IntKind.u64 a0.2.2.1 (pShl Go.IntKind.u64 a0.2.2.1 13)) 7)) (pShl Go.IntKind.u64 (pXor Go.IntKind.u64 (pXor Go.IntKind.u64 a0.2.2.1 (pShl Go.IntKind.u64 a0.2.2.1 13)) (pShr Go.IntKind.u64 (pXor Go.IntKind.u64 a0.2.2.1 (pShl Go.IntKind.u64 a0.2.2.1 13)) 7)) 17)) 20)) (pConv Go.IntKind.u64 a1))), (a0.1, ((pAdd Go.IntKind.i64 a0.2.1 1), ((pXor Go.IntKind.u64 (pXor Go.IntKind.u64 (pXor Go.IntKind.u64 a0.2.2.1 (pShl Go.IntKind.u64 a0.2.2.1 13)) (pShr Go.IntKind.u64 (pXor Go.IntKind.u64 a0.2.2.1 (pShl Go.IntKind.u64 a0.2.2.1 13)) 7)) (pShl Go.IntKind.u64 (pXor Go.IntKind.u64 (pXor Go.IntKind.u64 a0.2.2.1 (pShl Go.IntKind.u64 a0.2.2.1 13)) (pShr Go.IntKind.u64 (pXor Go.IntKind.u64 a0.2.2.1 (pShl Go.IntKind.u64 a0.2.2.1 13)) 7)) 17)), a0.2.2.2)))))))))) (
      ifB (pLt 13 0) (
        none) (
        ifB (pLt 7 0) (
          none) (
          ifB (pLt 17 0) (
            none) (
            ifB (pLt 20 0) (
              none) (
              ifB (pEq (pConv Go.IntKind.u64 a1) 0) (
                none) (
                some ((pConv Go.IntKind.i64 (pRem (pAdd Go.IntKind.u64 0 (pShr Go.IntKind.u64 (pXor Go.IntKind.u64 (pXor Go.IntKind.u64 (pXor Go.IntKind.u64 a0.2.2.1 (pShl Go.IntKind.u64 a0.2.2.1 13)) (pShr Go.IntKind.u64 (pXor Go.IntKind.u64 a0.2.2.1 (pShl Go.IntKind.u64 a0.2.2.1 13)) 7)) (pShl Go.IntKind.u64 (pXor Go.IntKind.u64 (pXor Go.IntKind.u64 a0.2.2.1 (pShl Go.IntKind.u64 a0.2.2.1 13)) (pShr Go.IntKind.u64 (pXor Go.IntKind.u64 a0.2.2.1 (pShl Go.IntKind.u64 a0.2.2.1 13)) 7)) 17)) 20)) (pConv Go.IntKind.u64 a1))), (a0.1, (a0.2.1, ((pXor Go.IntKind.u64 (pXor Go.IntKind.u64 (pXor Go.IntKind.u64 a0.2.2.1 (pShl Go.IntKind.u64 a0.2.2.1 13)) (pShr Go.IntKind.u64 (pXor Go.IntKind.u64 a0.2.2.1 (pShl Go.IntKind.u64 a0.2.2.1 13)) 7)) (pShl Go.IntKind.u64 (pXor Go.IntKind.u64 (pXor Go.IntKind.u64 a0.2.2.1 (pShl Go.IntKind.u64 a0.2.2.1 13)) (pShr Go.IntKind.u64 (pXor Go.IntKind.u64 a0.2.2.1 (pShl Go.IntKind.u64 a0.2.2.1 13)) 7)) 17)), a0.2.2.2)))))))))))

noncomputable def spec_l01Src_one (N : Nat) (a0 : List (Int) × Int × Int × Int × Unit) (a1 : Int) : Option (Bool × List Int × Int × Int × Int × Unit) :=
  bindO (spec_l01Src_n N a0 a1) fun y1 =>
  some ((pEq y1.1 0), y1.2)

noncomputable def spec_l01Src_pick (N : Nat) (a0 : List (Int) × Int × Int × Int × Unit) (a1 : List (ByteArray)) : Option (ByteArray × List Int × Int × Int × Int × Unit) :=
  bindO (spec_l01Src_n N a0 (pLen a1)) fun y2 =>
  bindO (idx a1 y2.1) fun y3 =>
  some (y3, y2.2)

noncomputable def spec_l01Bytes (N : Nat) (a0 : Int) : Option (List Int) :=
  ifB (pLt a0 128) (
    some [(pConv Go.IntKind.u8 a0)]) (
    ifB (pLt a0 2048) (
      ifB (pEq 64 0) (
        none) (
        ifB (pEq 64 0) (
          none) (
          some [(pConv Go.IntKind.u8 (pAdd Go.IntKind.i64 192 (pQuo Go.IntKind.i64 a0 64))), (pConv Go.IntKind.u8 (pAdd Go.IntKind.i64 128 (pRem a0 64)))]))) (
      ifB (pLt a0 65536) (
        ifB (pEq 4096 0) (
          none) (
          ifB (pEq 64 0) (
            none) (
            ifB (pEq 64 0) (
              none) (
              ifB (pEq 64 0) (
                none) (
                some [(pConv Go.IntKind.u8 (pAdd Go.IntKind.i64 224 (pQuo Go.IntKind.i64 a0 4096))), (pConv Go.IntKind.u8 (pAdd Go.IntKind.i64 128 (pRem (pQuo Go.IntKind.i64 a0 64) 64))), (pConv Go.IntKind.u8 (pAdd Go.IntKind.i64 128 (pRem a0 64)))]))))) (
        ifB (pEq 262144 0) (
          none) (
          ifB (pEq 4096 0) (
            none) (
            ifB (pEq 64 0) (
              none) (
              ifB (pEq 64 0) (
                none) (
                ifB (pEq 64 0) (
                  none) (
                  ifB (pEq 64 0) (
                    none) (
                    some [(pConv Go.IntKind.u8 (pAdd Go.IntKind.i64 240 (pQuo Go.IntKind.i64 a0 262144))), (pConv Go.IntKind.u8 (pAdd Go.IntKind.i64 128 (pRem (pQuo Go.IntKind.i64 a0 4096) 64))), (pConv Go.IntKind.u8 (pAdd Go.IntKind.i64 128 (pRem (pQuo Go.IntKind.i64 a0 64) 64))), (pConv Go.IntKind.u8 (pAdd Go.IntKind.i64 128 (pRem a0 64)))])))))))))

noncomputable def spec_l01First.l18 {R : Type} (N : Nat) (d : ByteArray × Int × Int × Int × Unit) (kn : ByteArray × Int × Int × Int × Unit → Option R) (kx : (ByteArray × Int × Int × Unit) ⊕ (Int × Int × Unit) → Option R) : Option R :=
  let x46 := d.1;
  let x47 := d.2.1;
  let x48 := d.2.2.1;
  let x49 := d.2.2.2.1;
    ifB (pLt x49 x47) (
      bindO (bidx x46 x49) fun y50 =>
      bindO (
        ifB (pLt y50 128) (
          some true) (
          bindO (bidx x46 x49) fun y52 =>
          some (pGe y52 192))) fun y51 =>
      ifB y51 (
        kx (.inr (65533, 1, ()))) (
        bindO (bidx x46 x49) fun y53 =>
        kn (x46, x47, (pAdd Go.IntKind.i64 (pMul Go.IntKind.i64 64 x48) (pConv Go.IntKind.i64 (pSub Go.IntKind.u8 y53 128))), (pAdd Go.IntKind.i64 x49 1), ()))) (
      kx (.inl (x46, x47, x48, ())))
noncomputable def spec_l01First (N : Nat) (a0 : ByteArray) : Option (Int × Int) :=
  bindO (bidx a0 0) fun y38 =>
  ifB (pLt (pConv Go.IntKind.i64 y38) 128) (
    some ((pConv Go.IntKind.i64 y38), 1)) (
    bindO (A := ByteArray × Int × Int × Unit) (
      bindO (
        ifB (pGe (pConv Go.IntKind.i64 y38) 192) (
          some (pLt (pConv Go.IntKind.i64 y38) 224)) (
          some false)) fun y39 =>
      ifB y39 (
        some (a0, 2, (pSub Go.IntKind.i64 (pConv Go.IntKind.i64 y38) 192), ())) (
        bindO (
          ifB (pGe (pConv Go.IntKind.i64 y38) 224) (
            some (pLt (pConv Go.IntKind.i64 y38) 240)) (
            some false)) fun y40 =>
        ifB y40 (
          some (a0, 3, (pSub Go.IntKind.i64 (pConv Go.IntKind.i64 y38) 224), ())) (
          bindO (
            ifB (pGe (pConv Go.IntKind.i64 y38) 240) (
              some (pLt (pConv Go.IntKind.i64 y38) 248)) (
              some false)) fun y41 =>
          ifB y41 (
            some (a0, 4, (pSub Go.IntKind.i64 (pConv Go.IntKind.i64 y38) 240), ())) (
            some (a0, 0, 0, ()))))) (
      fun d =>
      let x42 := d.1;
      let x43 := d.2.1;
      let x44 := d.2.2.1;
      bindO (
        ifB (pEq x43 0) (
          some true) (
          some (pLt (pSize x42) x43))) fun y45 =>
      ifB y45 (
        some (65533, 1)) (
        loopP (spec_l01First.l18 N) N (x42, x43, x44, 1, ()) (
          onSum (fun d =>
            let x54 := d.1;
            let x55 := d.2.1;
            let x56 := d.2.2.1;
            bindO (spec_l01Point N x56) fun y57 =>
            ifB (pNot y57) (
              some (65533, 1)) (
              ifB (pLe 0 0) (
                ifB (pLe 0 x55) (
                  ifB (pLe x55 (pSize x54)) (
                    bindO (spec_l01Bytes N x56) fun y58 =>
                    ifB (pNot (pSEq (bytesOf y58) (ssub x54 0 x55))) (
                      some (65533, 1)) (
                      some (x56, x55))) (
                    none)) (
                  none)) (
                none))) (
          fun d =>
          let x59 := d.1;
          let x60 := d.2.1;
          some (x59, x60))))))

noncomputable def spec_l01Points.l3 {R : Type} (N : Nat) (d : ByteArray × Int × List Int × Unit) (kn : ByteArray × Int × List Int × Unit → Option R) (kx : List Int × Unit → Option R) : Option R :=
  let x9 := d.1;
  let x10 := d.2.1;
  let x11 := d.2.2.1;
    ifB (pLt x10 (pSize x9)) (
      ifB (pLe 0 x10) (
        ifB (pLe x10 (pSize x9)) (
          ifB (pLe (pSize x9) (pSize x9)) (
            bindO (spec_l01First N (ssub x9 x10 (pSize x9))) fun y12 =>
            ifB (pFit x11 [y12.1]) (
              kn (x9, (pAdd Go.IntKind.i64 x10 y12.2), (pApp x11 [y12.1]), ())) (
              none)) (
            none)) (
          none)) (
        none)) (
      kx (x11, ()))
noncomputable def spec_l01Points (N : Nat) (a0 : ByteArray) : Option (List Int) :=
  loopP (spec_l01Points.l3 N) N (a0, 0, [], ()) (
    fun d =>
    let x13 := d.1;
    some x13)

noncomputable def spec_l01Src_l15Cand (N : Nat) (a0 : List (Int) × Int × Int × Int × Unit) : Option (List Int × List Int × Int × Int × Int × Unit) :=
  bindO (spec_l01Src_pick N a0 [(ByteArray.mk #[97, 98]), (ByteArray.mk #[97, 98, 99]), (ByteArray.mk #[97, 98, 100]), (ByteArray.mk #[97]), (ByteArray.mk #[98]), (ByteArray.mk #[109, 97, 107, 101]), (ByteArray.mk #[109, 97, 120]), (ByteArray.mk #[109, 97, 95, 49]), (ByteArray.mk #[99, 97, 102, 195, 169]), (ByteArray.mk #[228, 184, 128, 97])]) fun y2 =>
  bindO (spec_l01Points N y2.1) fun y3 =>
  some (y3, y2.2)

noncomputable def spec_l01Src_l15Cands.l5 {R : Type} (N : Nat) (d : Int × (List Int × Int × Int × Int × Unit) × List (List Int) × Unit) (kn : Int × (List Int × Int × Int × Int × Unit) × List (List Int) × Unit → Option R) (kx : (List Int × Int × Int × Int × Unit) × List (List Int) × Unit → Option R) : Option R :=
  let x43 := d.1;
  let x44 := d.2.1;
  let x45 := d.2.2.1;
    ifB (pGt x43 0) (
      bindO (spec_l01Src_l15Cand N x44) fun y46 =>
      ifB (pFit x45 [y46.1]) (
        kn ((pSub Go.IntKind.i64 x43 1), y46.2, (pApp x45 [y46.1]), ())) (
        none)) (
      kx (x44, x45, ()))
noncomputable def spec_l01Src_l15Cands.l12 {R : Type} (N : Nat) (d : Int × (List Int × Int × Int × Int × Unit) × List (List Int) × List Int × Unit) (kn : Int × (List Int × Int × Int × Int × Unit) × List (List Int) × List Int × Unit → Option R) (kx : (List Int × Int × Int × Int × Unit) × List (List Int) × List Int × Unit → Option R) : Option R :=
  let x52 := d.1;
  let x53 := d.2.1;
  let x54 := d.2.2.1;
  let x55 := d.2.2.2.1;
    ifB (pGt x52 0) (
      ifB (pFit x55 [122]) (
        kn ((pSub Go.IntKind.i64 x52 1), x53, x54, (pApp x55 [122]), ())) (
        none)) (
      kx (x53, x54, x55, ()))
noncomputable def spec_l01Src_l15Cands (N : Nat) (a0 : List (Int) × Int × Int × Int × Unit) : Option (List (List Int) × List Int × Int × Int × Int × Unit) :=
  bindO (spec_l01Src_n N a0 6) fun y40 =>
  bindO (spec_l01Src_one N y40.2 30) fun y41 =>
  ifB y41.1 (
    bindO (spec_l01Src_n N y41.2 3) fun y42 =>
    loopP (spec_l01Src_l15Cands.l5 N) N ((pAdd Go.IntKind.i64 39 y42.1), y42.2, [], ()) (
      fun d =>
      let x47 := d.1;
      let x48 := d.2.1;
      bindO (spec_l01Src_one N x47 15) fun y49 =>
      ifB y49.1 (
        bindO (spec_l01Src_n N y49.2 3) fun y50 =>
        ifB (pEq y50.1 0) (
          ifB (pFit x48 [[]]) (
            some ((pApp x48 [[]]), y50.2)) (
            none)) (
          ifB (pEq y50.1 1) (
            ifB (pFit x48 [[32]]) (
              some ((pApp x48 [[32]]), y50.2)) (
              none)) (
            bindO (spec_l01Src_n N y50.2 3) fun y51 =>
            loopP (spec_l01Src_l15Cands.l12 N) N ((pAdd Go.IntKind.i64 y51.1 39), y51.2, x48, [], ()) (
              fun d =>
              let x56 := d.1;
              let x57 := d.2.1;
              let x58 := d.2.2.1;
              ifB (pFit x57 [x58]) (
                some ((pApp x57 [x58]), x56)) (
                none))))) (
        some (x48, y49.2)))) (
    loopP (spec_l01Src_l15Cands.l5 N) N (y40.1, y41.2, [], ()) (
      fun d =>
      let x63 := d.1;
      let x64 := d.2.1;
      bindO (spec_l01Src_one N x63 15) fun y65 =>
      ifB y65.1 (
        bindO (spec_l01Src_n N y65.2 3) fun y66 =>
        ifB (pEq y66.1 0) (
          ifB (pFit x64 [[]]) (
            some ((pApp x64 [[]]), y66.2)) (
            none)) (
          ifB (pEq y66.1 1) (
            ifB (pFit x64 [[32]]) (
              some ((pApp x64 [[32]]), y66.2)) (
              none)) (
            bindO (spec_l01Src_n N y66.2 3) fun y67 =>
            loopP (spec_l01Src_l15Cands.l12 N) N ((pAdd Go.IntKind.i64 y67.1 39), y67.2, x64, [], ()) (
              fun d =>
              let x72 := d.1;
              let x73 := d.2.1;
              let x74 := d.2.2.1;
              ifB (pFit x73 [x74]) (
                some ((pApp x73 [x74]), x72)) (
                none))))) (
        some (x64, y65.2))))

noncomputable def spec_l01Src_l15Prefix (N : Nat) (a0 : List (Int) × Int × Int × Int × Unit) : Option (List Int × List Int × Int × Int × Int × Unit) :=
  bindO (spec_l01Src_pick N a0 [(ByteArray.mk #[]), (ByteArray.mk #[97]), (ByteArray.mk #[97, 98]), (ByteArray.mk #[109]), (ByteArray.mk #[109, 97]), (ByteArray.mk #[120]), (ByteArray.mk #[99, 97, 102])]) fun y2 =>
  bindO (spec_l01Points N y2.1) fun y3 =>
  some (y3, y2.2)

noncomputable def spec_DrawCompCommon (N : Nat) (a0 : List (Int)) : Option (List (List Int) × List Int) :=
  bindO (spec_l01Source N a0) fun y3 =>
  bindO (spec_l01Src_l15Cands N y3) fun y4 =>
  bindO (spec_l01Src_l15Prefix N y4.2) fun y5 =>
  some (y4.1, y5.1)

noncomputable def laws_lwCopy (N : Nat) (a0 : List (Int)) : Option (List Int) :=
  ifB (pFit [] a0) (
    some (pApp [] a0)) (
    none)

noncomputable def laws_lwAll.l3 {R : Type} (N : Nat) (d : List (List Int) × Int × List (List Int) × Unit) (kn : List (List Int) × Int × List (List Int) × Unit → Option R) (kx : List (List Int) × Unit → Option R) : Option R :=
  let x13 := d.1;
  let x14 := d.2.1;
  let x15 := d.2.2.1;
    ifB (pLt x14 (pLen x13)) (
      bindO (idx x13 x14) fun y16 =>
      bindO (laws_lwCopy N y16) fun y17 =>
      ifB (pFit x15 [y17]) (
        kn (x13, (pAdd Go.IntKind.i64 x14 1), (pApp x15 [y17]), ())) (
        none)) (
      kx (x15, ()))
noncomputable def laws_lwAll (N : Nat) (a0 : List (List (Int))) : Option (List (List Int)) :=
  loopP (laws_lwAll.l3 N) N (a0, 0, [], ()) (
    fun d =>
    let x18 := d.1;
    some x18)

noncomputable def laws_lwSame.l4 {R : Type} (N : Nat) (d : List Int × List Int × Int × Unit) (kn : List Int × List Int × Int × Unit → Option R) (kx : (Unit) ⊕ (Bool × Unit) → Option R) : Option R :=
  let x13 := d.1;
  let x14 := d.2.1;
  let x15 := d.2.2.1;
    ifB (pLt x15 (pLen x13)) (
      bindO (idx x13 x15) fun y16 =>
      bindO (idx x14 x15) fun y17 =>
      ifB (pNe y16 y17) (
        kx (.inr (false, ()))) (
        kn (x13, x14, (pAdd Go.IntKind.i64 x15 1), ()))) (
      kx (.inl (())))
noncomputable def laws_lwSame (N : Nat) (a0 : List (Int)) (a1 : List (Int)) : Option (Bool) :=
  ifB (pNe (pLen a0) (pLen a1)) (
    some false) (
    loopP (laws_lwSame.l4 N) N (a0, a1, 0, ()) (
      onSum (fun d =>
        some true) (
      fun d =>
      let x18 := d.1;
      some x18)))

noncomputable def laws_lwBegins (N : Nat) (a0 : List (Int)) (a1 : List (Int)) : Option (Bool) :=
  bindO (
    ifB (pGe (pLen a0) (pLen a1)) (
      ifB (pLe 0 0) (
        ifB (pLe 0 (pLen a1)) (
          ifB (pLe (pLen a1) (pLen a0)) (
            bindO (laws_lwSame N (sub a0 0 (pLen a1)) a1) fun y3 =>
            some y3) (
            none)) (
          none)) (
        none)) (
      some false)) fun y2 =>
  some y2

noncomputable def laws_FnComplete.l12 {R : Type} (N : Nat) (d : Int × Int × List (List Int) × List Int × List Int × List Int × Unit) (kn : Int × Int × List (List Int) × List Int × List Int × List Int × Unit → Option R) (kx : (Int × List Int × List Int × List Int × Unit) ⊕ (Bool × Unit) → Option R) : Option R :=
  let x83 := d.1;
  let x84 := d.2.1;
  let x85 := d.2.2.1;
  let x86 := d.2.2.2.1;
  let x87 := d.2.2.2.2.1;
  let x88 := d.2.2.2.2.2.1;
    ifB (pLt x84 (pLen x85)) (
      bindO (A := (Int × Int × List (List Int) × List Int × List Int × List Int × Unit) ⊕ (Bool × Unit)) (
        bindO (idx x85 x84) fun y89 =>
        bindO (idx x85 x84) fun y90 =>
        bindO (idx x85 x84) fun y91 =>
        bindO (laws_lwBegins N y91 x86) fun y92 =>
        ifB (pNot y92) (
          some (.inl (x83, x84, x85, x86, x87, x88, ()))) (
          bindO (
            ifB (pGe x83 (pLen x88)) (
              some true) (
              bindO (idx x88 x83) fun y94 =>
              bindO (idx x88 x83) fun y95 =>
              some (pNe y95 x84))) fun y93 =>
          bindO (
            ifB y93 (
              some true) (
              bindO (idx x85 x84) fun y97 =>
              bindO (idx x85 x84) fun y98 =>
              bindO (idx x85 x84) fun y99 =>
              bindO (laws_lwBegins N y99 x87) fun y100 =>
              some (pNot y100))) fun y96 =>
          ifB y96 (
            some (.inr (false, ()))) (
            some (.inl ((pAdd Go.IntKind.i64 x83 1), x84, x85, x86, x87, x88, ()))))) (
        onSum (fun d =>
          let x101 := d.1;
          let x102 := d.2.1;
          let x103 := d.2.2.1;
          let x104 := d.2.2.2.1;
          let x105 := d.2.2.2.2.1;
          let x106 := d.2.2.2.2.2.1;
          kn (x101, (pAdd Go.IntKind.i64 x102 1), x103, x104, x105, x106, ())) (
        fun d =>
        let x107 := d.1;
        kx (.inr (x107, ()))))) (
      kx (.inl (x83, x86, x87, x88, ())))
noncomputable def laws_FnComplete (N : Nat) (a0 : List (Int)) : Option (Bool) :=
  ifB (pGt (pLen a0) 1048576) (
    some true) (
    bindO (spec_DrawCompCommon N a0) fun y70 =>
    bindO (laws_lwAll N y70.1) fun y71 =>
    bindO (laws_lwCopy N y70.2) fun y72 =>
    bindO (impl_CompCommon N y71 y72) fun y73 =>
    bindO (laws_lwAll N y70.1) fun y74 =>
    bindO (laws_lwCopy N y70.2) fun y75 =>
    bindO (impl_CompMatch N y74 y75) fun y76 =>
    bindO (spec_CompCommon N y70.1 y70.2) fun y77 =>
    bindO (laws_lwSame N y73 y77) fun y78 =>
    bindO (
      ifB (pNot y78) (
        some true) (
        bindO (spec_CompMatch N y70.1 y70.2) fun y80 =>
        bindO (laws_lwSame N y76 y80) fun y81 =>
        some (pNot y81))) fun y79 =>
    ifB y79 (
      some false) (
      bindO (spec_CandsRight N y70.1) fun y82 =>
      ifB (pNot y82) (
        some (pEq (pLen y76) 0)) (
        loopP (laws_FnComplete.l12 N) N (0, 0, y70.1, y70.2, y73, y76, ()) (
          onSum (fun d =>
            let x108 := d.1;
            let x109 := d.2.1;
            let x110 := d.2.2.1;
            let x111 := d.2.2.2.1;
            bindO (
              ifB (pEq x108 (pLen x111)) (
                bindO (laws_lwBegins N x110 x109) fun y113 =>
                some y113) (
                some false)) fun y112 =>
            some y112) (
          fun d =>
          let x114 := d.1;
          some x114)))))

end Go.AE.F
