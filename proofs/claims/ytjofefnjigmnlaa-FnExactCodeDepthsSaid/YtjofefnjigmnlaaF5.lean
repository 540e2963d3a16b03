/- Functions as they are printed out of the program: plain Lean, nothing is claimed here. -/
import Derived.Test.YtjofefnjigmnlaaF4
namespace Go.AE.F
open Go.AE
noncomputable def spec_EdNew (N : Nat) : Option ((List (Int × ByteArray × ByteArray × Unit)) × (List (ByteArray × ByteArray × Unit)) × List (List Int) × (List Int × Int × Int × Unit) × (List (List Int) × Int × Unit) × ((List (List Int × Int × Int × Unit)) × (List (List Int × Int × Int × Unit)) × Unit) × (List (List Int) × Int × List Int × Unit) × Int × ByteArray × Int × Int × Int × List (List Int) × Unit) :=
  some ([], ([], ([], (([], (0, (0, ()))), (([], (0, ())), (([], ([], ())), (([], (0, ([], ()))), (1, ((ByteArray.mk #[]), (0, (0, (0, ([], ())))))))))))))

noncomputable def impl_EdNew (N : Nat) : Option ((List (Int × ByteArray × ByteArray × Unit)) × (List (ByteArray × ByteArray × Unit)) × List (List Int) × (List Int × Int × Int × Unit) × (List (List Int) × Int × Unit) × ((List (List Int × Int × Int × Unit)) × (List (List Int × Int × Int × Unit)) × Unit) × (List (List Int) × Int × List Int × Unit) × Int × ByteArray × Int × Int × Int × List (List Int) × Unit) :=
  some ([], ([], ([], (([], (0, (0, ()))), (([], (0, ())), (([], ([], ())), (([], (0, ([], ()))), (1, ((ByteArray.mk #[]), (0, (0, (0, ([], ())))))))))))))

noncomputable def laws_eqKey (N : Nat) (a0 : Int × ByteArray × ByteArray × Unit) (a1 : Int × ByteArray × ByteArray × Unit) : Option (Bool) :=
  ifB (pNe a0.1 a1.1) (
    some false) (
    ifB (pNot (pSEq a0.2.1 a1.2.1)) (
      some false) (
      ifB (pNot (pSEq a0.2.2.1 a1.2.2.1)) (
        some false) (
        some true)))

noncomputable def laws_eqKeyS.l4 {R : Type} (N : Nat) (d : (List (Int × ByteArray × ByteArray × Unit)) × (List (Int × ByteArray × ByteArray × Unit)) × Int × Unit) (kn : (List (Int × ByteArray × ByteArray × Unit)) × (List (Int × ByteArray × ByteArray × Unit)) × Int × Unit → Option R) (kx : (Unit) ⊕ (Bool × Unit) → Option R) : Option R :=
  let x16 := d.1;
  let x17 := d.2.1;
  let x18 := d.2.2.1;
    ifB (pLt x18 (pLen x16)) (
      bindO (idx x16 x18) fun y19 =>
      bindO (idx x17 x18) fun y20 =>
      bindO (laws_eqKey N y19 y20) fun y21 =>
      ifB (pNot y21) (
        kx (.inr (false, ()))) (
        kn (x16, x17, (pAdd Go.IntKind.i64 x18 1), ()))) (
      kx (.inl (())))
noncomputable def laws_eqKeyS (N : Nat) (a0 : List (Int × ByteArray × ByteArray × Unit)) (a1 : List (Int × ByteArray × ByteArray × Unit)) : Option (Bool) :=
  ifB (pNe (pLen a0) (pLen a1)) (
    some false) (
    loopP (laws_eqKeyS.l4 N) N (a0, a1, 0, ()) (
      onSum (fun d =>
        some true) (
      fun d =>
      let x22 := d.1;
      some x22)))

noncomputable def laws_eqWidget (N : Nat) (a0 : ByteArray × ByteArray × Unit) (a1 : ByteArray × ByteArray × Unit) : Option (Bool) :=
  ifB (pNot (pSEq a0.1 a1.1)) (
    some false) (
    ifB (pNot (pSEq a0.2.1 a1.2.1)) (
      some false) (
      some true))

noncomputable def laws_eqWidgetS.l4 {R : Type} (N : Nat) (d : (List (ByteArray × ByteArray × Unit)) × (List (ByteArray × ByteArray × Unit)) × Int × Unit) (kn : (List (ByteArray × ByteArray × Unit)) × (List (ByteArray × ByteArray × Unit)) × Int × Unit → Option R) (kx : (Unit) ⊕ (Bool × Unit) → Option R) : Option R :=
  let x16 := d.1;
  let x17 := d.2.1;
  let x18 := d.2.2.1;
    ifB (pLt x18 (pLen x16)) (
      bindO (idx x16 x18) fun y19 =>
      bindO (idx x17 x18) fun y20 =>
      bindO (laws_eqWidget N y19 y20) fun y21 =>
      ifB (pNot y21) (
        kx (.inr (false, ()))) (
        kn (x16, x17, (pAdd Go.IntKind.i64 x18 1), ()))) (
      kx (.inl (())))
noncomputable def laws_eqWidgetS (N : Nat) (a0 : List (ByteArray × ByteArray × Unit)) (a1 : List (ByteArray × ByteArray × Unit)) : Option (Bool) :=
  ifB (pNe (pLen a0) (pLen a1)) (
    some false) (
    loopP (laws_eqWidgetS.l4 N) N (a0, a1, 0, ()) (
      onSum (fun d =>
        some true) (
      fun d =>
      let x22 := d.1;
      some x22)))

noncomputable def laws_eqRing (N : Nat) (a0 : List (List (Int)) × Int × Unit) (a1 : List (List (Int)) × Int × Unit) : Option (Bool) :=
  bindO (laws_eqInt64SS N a0.1 a1.1) fun y1 =>
  ifB (pNot y1) (
    some false) (
    ifB (pNe a0.2.1 a1.2.1) (
      some false) (
      some true))

noncomputable def laws_eqBufS.l4 {R : Type} (N : Nat) (d : (List (List Int × Int × Int × Unit)) × (List (List Int × Int × Int × Unit)) × Int × Unit) (kn : (List (List Int × Int × Int × Unit)) × (List (List Int × Int × Int × Unit)) × Int × Unit → Option R) (kx : (Unit) ⊕ (Bool × Unit) → Option R) : Option R :=
  let x16 := d.1;
  let x17 := d.2.1;
  let x18 := d.2.2.1;
    ifB (pLt x18 (pLen x16)) (
      bindO (idx x16 x18) fun y19 =>
      bindO (idx x17 x18) fun y20 =>
      bindO (laws_eqBuf N y19 y20) fun y21 =>
      ifB (pNot y21) (
        kx (.inr (false, ()))) (
        kn (x16, x17, (pAdd Go.IntKind.i64 x18 1), ()))) (
      kx (.inl (())))
noncomputable def laws_eqBufS (N : Nat) (a0 : List (List (Int) × Int × Int × Unit)) (a1 : List (List (Int) × Int × Int × Unit)) : Option (Bool) :=
  ifB (pNe (pLen a0) (pLen a1)) (
    some false) (
    loopP (laws_eqBufS.l4 N) N (a0, a1, 0, ()) (
      onSum (fun d =>
        some true) (
      fun d =>
      let x22 := d.1;
      some x22)))

noncomputable def laws_eqUndo (N : Nat) (a0 : (List (List (Int) × Int × Int × Unit)) × (List (List (Int) × Int × Int × Unit)) × Unit) (a1 : (List (List (Int) × Int × Int × Unit)) × (List (List (Int) × Int × Int × Unit)) × Unit) : Option (Bool) :=
  bindO (laws_eqBufS N a0.1 a1.1) fun y2 =>
  ifB (pNot y2) (
    some false) (
    bindO (laws_eqBufS N a0.2.1 a1.2.1) fun y3 =>
    ifB (pNot y3) (
      some false) (
      some true))

noncomputable def laws_eqHist (N : Nat) (a0 : List (List (Int)) × Int × List (Int) × Unit) (a1 : List (List (Int)) × Int × List (Int) × Unit) : Option (Bool) :=
  bindO (laws_eqInt64SS N a0.1 a1.1) fun y2 =>
  ifB (pNot y2) (
    some false) (
    ifB (pNe a0.2.1 a1.2.1) (
      some false) (
      bindO (laws_eqInt64S N a0.2.2.1 a1.2.2.1) fun y3 =>
      ifB (pNot y3) (
        some false) (
        some true)))

noncomputable def laws_eqEd (N : Nat) (a0 : (List (Int × ByteArray × ByteArray × Unit)) × (List (ByteArray × ByteArray × Unit)) × List (List (Int)) × (List (Int) × Int × Int × Unit) × (List (List (Int)) × Int × Unit) × ((List (List (Int) × Int × Int × Unit)) × (List (List (Int) × Int × Int × Unit)) × Unit) × (List (List (Int)) × Int × List (Int) × Unit) × Int × ByteArray × Int × Int × Int × List (List (Int)) × Unit) (a1 : (List (Int × ByteArray × ByteArray × Unit)) × (List (ByteArray × ByteArray × Unit)) × List (List (Int)) × (List (Int) × Int × Int × Unit) × (List (List (Int)) × Int × Unit) × ((List (List (Int) × Int × Int × Unit)) × (List (List (Int) × Int × Int × Unit)) × Unit) × (List (List (Int)) × Int × List (Int) × Unit) × Int × ByteArray × Int × Int × Int × List (List (Int)) × Unit) : Option (Bool) :=
  bindO (laws_eqKeyS N a0.1 a1.1) fun y8 =>
  ifB (pNot y8) (
    some false) (
    bindO (laws_eqWidgetS N a0.2.1 a1.2.1) fun y9 =>
    ifB (pNot y9) (
      some false) (
      bindO (laws_eqInt64SS N a0.2.2.1 a1.2.2.1) fun y10 =>
      ifB (pNot y10) (
        some false) (
        bindO (laws_eqBuf N a0.2.2.2.1 a1.2.2.2.1) fun y11 =>
        ifB (pNot y11) (
          some false) (
          bindO (laws_eqRing N a0.2.2.2.2.1 a1.2.2.2.2.1) fun y12 =>
          ifB (pNot y12) (
            some false) (
            bindO (laws_eqUndo N a0.2.2.2.2.2.1 a1.2.2.2.2.2.1) fun y13 =>
            ifB (pNot y13) (
              some false) (
              bindO (laws_eqHist N a0.2.2.2.2.2.2.1 a1.2.2.2.2.2.2.1) fun y14 =>
              ifB (pNot y14) (
                some false) (
                ifB (pNe a0.2.2.2.2.2.2.2.1 a1.2.2.2.2.2.2.2.1) (
                  some false) (
                  ifB (pNot (pSEq a0.2.2.2.2.2.2.2.2.1 a1.2.2.2.2.2.2.2.2.1)) (
                    some false) (
                    ifB (pNe a0.2.2.2.2.2.2.2.2.2.1 a1.2.2.2.2.2.2.2.2.2.1) (
                      some false) (
                      ifB (pNe a0.2.2.2.2.2.2.2.2.2.2.1 a1.2.2.2.2.2.2.2.2.2.2.1) (
                        some false) (
                        ifB (pNe a0.2.2.2.2.2.2.2.2.2.2.2.1 a1.2.2.2.2.2.2.2.2.2.2.2.1) (
                          some false) (
                          bindO (laws_eqInt64SS N a0.2.2.2.2.2.2.2.2.2.2.2.2.1 a1.2.2.2.2.2.2.2.2.2.2.2.2.1) fun y15 =>
                          ifB (pNot y15) (
                            some false) (
                            some true)))))))))))))

noncomputable def laws_markText.l4 {R : Type} (N : Nat) (d : Int × ByteArray × Unit) (kn : Int × ByteArray × Unit → Option R) (kx : ByteArray × Unit → Option R) : Option R :=
  let x6 := d.1;
  let x7 := d.2.1;
    ifB (pGt x6 0) (
      ifB (pEq 10 0) (
        none) (
        ifB (pFitS (bytesOf [(pConv Go.IntKind.u8 (pAdd Go.IntKind.i64 48 (pRem x6 10)))]) x7) (
          ifB (pEq 10 0) (
            none) (
            kn ((pQuo Go.IntKind.i64 x6 10), (pCat (bytesOf [(pConv Go.IntKind.u8 (pAdd Go.IntKind.i64 48 (pRem x6 10)))]) x7), ()))) (
          none))) (
      kx (x7, ()))
noncomputable def laws_markText (N : Nat) (a0 : Int) : Option (ByteArray) :=
  ifB (pLe a0 0) (
    some (ByteArray.mk #[109, 48])) (
    loopP (laws_markText.l4 N) N (a0, (ByteArray.mk #[]), ()) (
      fun d =>
      let x8 := d.1;
      ifB (pFitS (ByteArray.mk #[109]) x8) (
        some (pCat (ByteArray.mk #[109]) x8)) (
        none)))

noncomputable def laws_markKeyS.l2 {R : Type} (N : Nat) (d : Int × Int × (List (Int × ByteArray × ByteArray × Unit)) × Unit) (kn : Int × Int × (List (Int × ByteArray × ByteArray × Unit)) × Unit → Option R) (kx : Int × (List (Int × ByteArray × ByteArray × Unit)) × Unit → Option R) : Option R :=
  let x32 := d.1;
  let x33 := d.2.1;
  let x34 := d.2.2.1;
    ifB (pLt x33 (pLen x34)) (
      bindO (idx x34 x33) fun y35 =>
      bindO (idx x34 x33) fun y36 =>
      bindO (laws_markText N (pAdd Go.IntKind.i64 x32 1)) fun y37 =>
      bindO (idx (pSet x34 x33 (x32, y36.2)) x33) fun y38 =>
      bindO (idx (pSet x34 x33 (x32, y36.2)) x33) fun y39 =>
      bindO (laws_markText N (pAdd Go.IntKind.i64 (pAdd Go.IntKind.i64 x32 1) 1)) fun y40 =>
      bindO (idx (pSet (pSet x34 x33 (x32, y36.2)) x33 (y39.1, (y37, y39.2.2))) x33) fun y41 =>
      bindO (idx (pSet (pSet x34 x33 (x32, y36.2)) x33 (y39.1, (y37, y39.2.2))) x33) fun y42 =>
      kn ((pAdd Go.IntKind.i64 (pAdd Go.IntKind.i64 (pAdd Go.IntKind.i64 x32 1) 1) 1), (pAdd Go.IntKind.i64 x33 1), (pSet (pSet (pSet x34 x33 (x32, y36.2)) x33 (y39.1, (y37, y39.2.2))) x33 (y42.1, (y42.2.1, (y40, y42.2.2.2)))), ())) (
      kx (x32, x34, ()))
noncomputable def laws_markKeyS (N : Nat) (a0 : List (Int × ByteArray × ByteArray × Unit)) (a1 : Int) : Option (Int × List (Int × ByteArray × ByteArray × Unit)) :=
  loopP (laws_markKeyS.l2 N) N (a1, 0, a0, ()) (
    fun d =>
    let x43 := d.1;
    let x44 := d.2.1;
    some (x43, x44))

noncomputable def laws_markWidgetS.l2 {R : Type} (N : Nat) (d : Int × Int × (List (ByteArray × ByteArray × Unit)) × Unit) (kn : Int × Int × (List (ByteArray × ByteArray × Unit)) × Unit → Option R) (kx : Int × (List (ByteArray × ByteArray × Unit)) × Unit → Option R) : Option R :=
  let x26 := d.1;
  let x27 := d.2.1;
  let x28 := d.2.2.1;
    ifB (pLt x27 (pLen x28)) (
      bindO (laws_markText N x26) fun y29 =>
      bindO (idx x28 x27) fun y30 =>
      bindO (idx x28 x27) fun y31 =>
      bindO (laws_markText N (pAdd Go.IntKind.i64 x26 1)) fun y32 =>
      bindO (idx (pSet x28 x27 (y29, y31.2)) x27) fun y33 =>
      bindO (idx (pSet x28 x27 (y29, y31.2)) x27) fun y34 =>
      kn ((pAdd Go.IntKind.i64 (pAdd Go.IntKind.i64 x26 1) 1), (pAdd Go.IntKind.i64 x27 1), (pSet (pSet x28 x27 (y29, y31.2)) x27 (y34.1, (y32, y34.2.2))), ())) (
      kx (x26, x28, ()))
noncomputable def laws_markWidgetS (N : Nat) (a0 : List (ByteArray × ByteArray × Unit)) (a1 : Int) : Option (Int × List (ByteArray × ByteArray × Unit)) :=
  loopP (laws_markWidgetS.l2 N) N (a1, 0, a0, ()) (
    fun d =>
    let x35 := d.1;
    let x36 := d.2.1;
    some (x35, x36))

noncomputable def laws_markRing (N : Nat) (a0 : List (List (Int)) × Int × Unit) (a1 : Int) : Option (Int × List (List Int) × Int × Unit) :=
  bindO (laws_markInt64SS N a0.1 a1) fun y1 =>
  some (y1.1, (y1.2, a0.2))

noncomputable def laws_markBufS.l2 {R : Type} (N : Nat) (d : Int × Int × (List (List Int × Int × Int × Unit)) × Unit) (kn : Int × Int × (List (List Int × Int × Int × Unit)) × Unit → Option R) (kx : Int × (List (List Int × Int × Int × Unit)) × Unit → Option R) : Option R :=
  let x35 := d.1;
  let x36 := d.2.1;
  let x37 := d.2.2.1;
    ifB (pLt x36 (pLen x37)) (
      bindO (idx x37 x36) fun y38 =>
      bindO (idx x37 x36) fun y39 =>
      bindO (idx x37 x36) fun y40 =>
      bindO (laws_markInt64S N y40.1 x35) fun y41 =>
      bindO (idx x37 x36) fun y42 =>
      bindO (idx (pSet x37 x36 (y41.2, y42.2)) x36) fun y43 =>
      bindO (idx (pSet x37 x36 (y41.2, y42.2)) x36) fun y44 =>
      bindO (idx (pSet (pSet x37 x36 (y41.2, y42.2)) x36 (y44.1, (y41.1, y44.2.2))) x36) fun y45 =>
      bindO (idx (pSet (pSet x37 x36 (y41.2, y42.2)) x36 (y44.1, (y41.1, y44.2.2))) x36) fun y46 =>
      kn ((pAdd Go.IntKind.i64 (pAdd Go.IntKind.i64 y41.1 1) 1), (pAdd Go.IntKind.i64 x36 1), (pSet (pSet (pSet x37 x36 (y41.2, y42.2)) x36 (y44.1, (y41.1, y44.2.2))) x36 (y46.1, (y46.2.1, ((pAdd Go.IntKind.i64 y41.1 1), y46.2.2.2)))), ())) (
      kx (x35, x37, ()))
noncomputable def laws_markBufS (N : Nat) (a0 : List (List (Int) × Int × Int × Unit)) (a1 : Int) : Option (Int × List (List Int × Int × Int × Unit)) :=
  loopP (laws_markBufS.l2 N) N (a1, 0, a0, ()) (
    fun d =>
    let x47 := d.1;
    let x48 := d.2.1;
    some (x47, x48))

noncomputable def laws_markUndo (N : Nat) (a0 : (List (List (Int) × Int × Int × Unit)) × (List (List (Int) × Int × Int × Unit)) × Unit) (a1 : Int) : Option (Int × (List (List Int × Int × Int × Unit)) × (List (List Int × Int × Int × Unit)) × Unit) :=
  bindO (laws_markBufS N a0.1 a1) fun y2 =>
  bindO (laws_markBufS N a0.2.1 y2.1) fun y3 =>
  some (y3.1, (y2.2, (y3.2, a0.2.2)))

noncomputable def laws_markHist (N : Nat) (a0 : List (List (Int)) × Int × List (Int) × Unit) (a1 : Int) : Option (Int × List (List Int) × Int × List Int × Unit) :=
  bindO (laws_markInt64SS N a0.1 a1) fun y2 =>
  bindO (laws_markInt64S N a0.2.2.1 y2.1) fun y3 =>
  some (y3.1, (y2.2, (a0.2.1, (y3.2, a0.2.2.2))))

noncomputable def laws_markEd (N : Nat) (a0 : (List (Int × ByteArray × ByteArray × Unit)) × (List (ByteArray × ByteArray × Unit)) × List (List (Int)) × (List (Int) × Int × Int × Unit) × (List (List (Int)) × Int × Unit) × ((List (List (Int) × Int × Int × Unit)) × (List (List (Int) × Int × Int × Unit)) × Unit) × (List (List (Int)) × Int × List (Int) × Unit) × Int × ByteArray × Int × Int × Int × List (List (Int)) × Unit) (a1 : Int) : Option (Int × (List (Int × ByteArray × ByteArray × Unit)) × (List (ByteArray × ByteArray × Unit)) × List (List Int) × (List Int × Int × Int × Unit) × (List (List Int) × Int × Unit) × ((List (List Int × Int × Int × Unit)) × (List (List Int × Int × Int × Unit)) × Unit) × (List (List Int) × Int × List Int × Unit) × Int × ByteArray × Int × Int × Int × List (List Int) × Unit) :=
  bindO (laws_markKeyS N a0.1 a1) fun y8 =>
  bindO (laws_markWidgetS N a0.2.1 y8.1) fun y9 =>
  bindO (laws_markInt64SS N a0.2.2.1 y9.1) fun y10 =>
  bindO (laws_markBuf N a0.2.2.2.1 y10.1) fun y11 =>
  bindO (laws_markRing N a0.2.2.2.2.1 y11.1) fun y12 =>
  bindO (laws_markUndo N a0.2.2.2.2.2.1 y12.1) fun y13 =>
  bindO (laws_markHist N a0.2.2.2.2.2.2.1 y13.1) fun y14 =>
  bindO (laws_markInt64SS N a0.2.2.2.2.2.2.2.2.2.2.2.2.1 y14.1) fun y15 =>
  some (y15.1, (y8.2, (y9.2, (y10.2, (y11.2, (y12.2, (y13.2, (y14.2, (a0.2.2.2.2.2.2.2.1, (a0.2.2.2.2.2.2.2.2.1, (a0.2.2.2.2.2.2.2.2.2.1, (a0.2.2.2.2.2.2.2.2.2.2.1, (a0.2.2.2.2.2.2.2.2.2.2.2.1, (y15.2, a0.2.2.2.2.2.2.2.2.2.2.2.2.2))))))))))))))

noncomputable def laws_heldKeyS.l2 {R : Type} (N : Nat) (d : (List (Int × ByteArray × ByteArray × Unit)) × Int × Int × Unit) (kn : (List (Int × ByteArray × ByteArray × Unit)) × Int × Int × Unit → Option R) (kx : (Int × Unit) ⊕ (Int × Unit) → Option R) : Option R :=
  let x23 := d.1;
  let x24 := d.2.1;
  let x25 := d.2.2.1;
    ifB (pLt x25 (pLen x23)) (
      bindO (idx x23 x25) fun y26 =>
      ifB (pNe y26.1 x24) (
        kx (.inr ((-1), ()))) (
        bindO (idx x23 x25) fun y27 =>
        bindO (laws_markText N (pAdd Go.IntKind.i64 x24 1)) fun y28 =>
        ifB (pNot (pSEq y27.2.1 y28)) (
          kx (.inr ((-1), ()))) (
          bindO (idx x23 x25) fun y29 =>
          bindO (laws_markText N (pAdd Go.IntKind.i64 (pAdd Go.IntKind.i64 x24 1) 1)) fun y30 =>
          ifB (pNot (pSEq y29.2.2.1 y30)) (
            kx (.inr ((-1), ()))) (
            kn (x23, (pAdd Go.IntKind.i64 (pAdd Go.IntKind.i64 (pAdd Go.IntKind.i64 x24 1) 1) 1), (pAdd Go.IntKind.i64 x25 1), ()))))) (
      kx (.inl (x24, ())))
noncomputable def laws_heldKeyS (N : Nat) (a0 : List (Int × ByteArray × ByteArray × Unit)) (a1 : Int) : Option (Int) :=
  loopP (laws_heldKeyS.l2 N) N (a0, a1, 0, ()) (
    onSum (fun d =>
      let x31 := d.1;
      some x31) (
    fun d =>
    let x32 := d.1;
    some x32))

noncomputable def laws_heldWidgetS.l2 {R : Type} (N : Nat) (d : (List (ByteArray × ByteArray × Unit)) × Int × Int × Unit) (kn : (List (ByteArray × ByteArray × Unit)) × Int × Int × Unit → Option R) (kx : (Int × Unit) ⊕ (Int × Unit) → Option R) : Option R :=
  let x20 := d.1;
  let x21 := d.2.1;
  let x22 := d.2.2.1;
    ifB (pLt x22 (pLen x20)) (
      bindO (idx x20 x22) fun y23 =>
      bindO (laws_markText N x21) fun y24 =>
      ifB (pNot (pSEq y23.1 y24)) (
        kx (.inr ((-1), ()))) (
        bindO (idx x20 x22) fun y25 =>
        bindO (laws_markText N (pAdd Go.IntKind.i64 x21 1)) fun y26 =>
        ifB (pNot (pSEq y25.2.1 y26)) (
          kx (.inr ((-1), ()))) (
          kn (x20, (pAdd Go.IntKind.i64 (pAdd Go.IntKind.i64 x21 1) 1), (pAdd Go.IntKind.i64 x22 1), ())))) (
      kx (.inl (x21, ())))
noncomputable def laws_heldWidgetS (N : Nat) (a0 : List (ByteArray × ByteArray × Unit)) (a1 : Int) : Option (Int) :=
  loopP (laws_heldWidgetS.l2 N) N (a0, a1, 0, ()) (
    onSum (fun d =>
      let x27 := d.1;
      some x27) (
    fun d =>
    let x28 := d.1;
    some x28))

noncomputable def laws_heldInt64SS.l2 {R : Type} (N : Nat) (d : List (List Int) × Int × Int × Unit) (kn : List (List Int) × Int × Int × Unit → Option R) (kx : (Int × Unit) ⊕ (Int × Unit) → Option R) : Option R :=
  let x14 := d.1;
  let x15 := d.2.1;
  let x16 := d.2.2.1;
    ifB (pLt x16 (pLen x14)) (
      bindO (idx x14 x16) fun y17 =>
      bindO (laws_heldInt64S N y17 x15) fun y18 =>
      ifB (pLt y18 0) (
        kx (.inr ((-1), ()))) (
        kn (x14, y18, (pAdd Go.IntKind.i64 x16 1), ()))) (
      kx (.inl (x15, ())))
noncomputable def laws_heldInt64SS (N : Nat) (a0 : List (List (Int))) (a1 : Int) : Option (Int) :=
  loopP (laws_heldInt64SS.l2 N) N (a0, a1, 0, ()) (
    onSum (fun d =>
      let x19 := d.1;
      some x19) (
    fun d =>
    let x20 := d.1;
    some x20))

noncomputable def laws_heldBuf (N : Nat) (a0 : List (Int) × Int × Int × Unit) (a1 : Int) : Option (Int) :=
  bindO (laws_heldInt64S N a0.1 a1) fun y1 =>
  ifB (pLt y1 0) (
    some (-1)) (
    some y1)

noncomputable def laws_heldRing (N : Nat) (a0 : List (List (Int)) × Int × Unit) (a1 : Int) : Option (Int) :=
  bindO (laws_heldInt64SS N a0.1 a1) fun y1 =>
  ifB (pLt y1 0) (
    some (-1)) (
    some y1)

noncomputable def laws_heldBufS.l2 {R : Type} (N : Nat) (d : (List (List Int × Int × Int × Unit)) × Int × Int × Unit) (kn : (List (List Int × Int × Int × Unit)) × Int × Int × Unit → Option R) (kx : (Int × Unit) ⊕ (Int × Unit) → Option R) : Option R :=
  let x20 := d.1;
  let x21 := d.2.1;
  let x22 := d.2.2.1;
    ifB (pLt x22 (pLen x20)) (
      bindO (idx x20 x22) fun y23 =>
      bindO (laws_heldInt64S N y23.1 x21) fun y24 =>
      ifB (pLt y24 0) (
        kx (.inr ((-1), ()))) (
        bindO (idx x20 x22) fun y25 =>
        ifB (pNe y25.2.1 y24) (
          kx (.inr ((-1), ()))) (
          bindO (idx x20 x22) fun y26 =>
          ifB (pNe y26.2.2.1 (pAdd Go.IntKind.i64 y24 1)) (
            kx (.inr ((-1), ()))) (
            kn (x20, (pAdd Go.IntKind.i64 (pAdd Go.IntKind.i64 y24 1) 1), (pAdd Go.IntKind.i64 x22 1), ()))))) (
      kx (.inl (x21, ())))
noncomputable def laws_heldBufS (N : Nat) (a0 : List (List (Int) × Int × Int × Unit)) (a1 : Int) : Option (Int) :=
  loopP (laws_heldBufS.l2 N) N (a0, a1, 0, ()) (
    onSum (fun d =>
      let x27 := d.1;
      some x27) (
    fun d =>
    let x28 := d.1;
    some x28))

noncomputable def laws_heldUndo (N : Nat) (a0 : (List (List (Int) × Int × Int × Unit)) × (List (List (Int) × Int × Int × Unit)) × Unit) (a1 : Int) : Option (Int) :=
  bindO (laws_heldBufS N a0.1 a1) fun y2 =>
  ifB (pLt y2 0) (
    some (-1)) (
    bindO (laws_heldBufS N a0.2.1 y2) fun y3 =>
    ifB (pLt y3 0) (
      some (-1)) (
      some y3))

noncomputable def laws_heldHist (N : Nat) (a0 : List (List (Int)) × Int × List (Int) × Unit) (a1 : Int) : Option (Int) :=
  bindO (laws_heldInt64SS N a0.1 a1) fun y2 =>
  ifB (pLt y2 0) (
    some (-1)) (
    bindO (laws_heldInt64S N a0.2.2.1 y2) fun y3 =>
    ifB (pLt y3 0) (
      some (-1)) (
      some y3))

noncomputable def laws_heldEd (N : Nat) (a0 : (List (Int × ByteArray × ByteArray × Unit)) × (List (ByteArray × ByteArray × Unit)) × List (List (Int)) × (List (Int) × Int × Int × Unit) × (List (List (Int)) × Int × Unit) × ((List (List (Int) × Int × Int × Unit)) × (List (List (Int) × Int × Int × Unit)) × Unit) × (List (List (Int)) × Int × List (Int) × Unit) × Int × ByteArray × Int × Int × Int × List (List (Int)) × Unit) (a1 : Int) : Option (Int) :=
  bindO (laws_heldKeyS N a0.1 a1) fun y8 =>
  ifB (pLt y8 0) (
    some (-1)) (
    bindO (laws_heldWidgetS N a0.2.1 y8) fun y9 =>
    ifB (pLt y9 0) (
      some (-1)) (
      bindO (laws_heldInt64SS N a0.2.2.1 y9) fun y10 =>
      ifB (pLt y10 0) (
        some (-1)) (
        bindO (laws_heldBuf N a0.2.2.2.1 y10) fun y11 =>
        ifB (pLt y11 0) (
          some (-1)) (
          bindO (laws_heldRing N a0.2.2.2.2.1 y11) fun y12 =>
          ifB (pLt y12 0) (
            some (-1)) (
            bindO (laws_heldUndo N a0.2.2.2.2.2.1 y12) fun y13 =>
            ifB (pLt y13 0) (
              some (-1)) (
              bindO (laws_heldHist N a0.2.2.2.2.2.2.1 y13) fun y14 =>
              ifB (pLt y14 0) (
                some (-1)) (
                bindO (laws_heldInt64SS N a0.2.2.2.2.2.2.2.2.2.2.2.2.1 y14) fun y15 =>
                ifB (pLt y15 0) (
                  some (-1)) (
                  some y15))))))))

noncomputable def laws_FnExactEdNew (N : Nat) : Option (Bool) :=
  bindO (spec_EdNew N) fun y8 =>
  bindO (impl_EdNew N) fun y9 =>
  bindO (laws_eqEd N y9 y8) fun y10 =>
  ifB (pNot y10) (
    some false) (
    bindO (laws_markEd N y9 1) fun y11 =>
    bindO (laws_heldEd N y11.2 1) fun y12 =>
    ifB (pLt y12 0) (
      some false) (
      ifB (pNe y12 y11.1) (
        some false) (
        bindO (impl_EdNew N) fun y13 =>
        bindO (laws_eqEd N y13 y8) fun y14 =>
        ifB (pNot y14) (
          some false) (
          bindO (laws_heldEd N y11.2 1) fun y15 =>
          ifB (pLt y15 0) (
            some false) (
            ifB (pNe y15 y11.1) (
              some false) (
              some true))))))

end Go.AE.F
