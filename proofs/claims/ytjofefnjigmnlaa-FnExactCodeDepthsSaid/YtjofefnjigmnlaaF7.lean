/- Functions as they are printed out of the program: plain Lean, nothing is claimed here. -/
import Derived.Test.YtjofefnjigmnlaaF6
namespace Go.AE.F
open Go.AE
noncomputable def laws_szOpS (N : Nat) (a0 : List (Int × Int × Unit)) (a1 : Int) : Option (Int) :=
  ifB (pLt (pSub Go.IntKind.i64 a1 (pLen a0)) 0) (
    some (-1)) (
    some (pSub Go.IntKind.i64 a1 (pLen a0)))

noncomputable def laws_toOp (N : Nat) (a0 : Int × Int × Unit) : Option (Int × Int × Unit) :=
  some (a0.1, (a0.2.1, ()))

noncomputable def laws_toOpS.l3 {R : Type} (N : Nat) (d : (List (Int × Int × Unit)) × Int × (List (Int × Int × Unit)) × Unit) (kn : (List (Int × Int × Unit)) × Int × (List (Int × Int × Unit)) × Unit → Option R) (kx : (List (Int × Int × Unit)) × Unit → Option R) : Option R :=
  let x19 := d.1;
  let x20 := d.2.1;
  let x21 := d.2.2.1;
    ifB (pLt x20 (pLen x19)) (
      bindO (idx x19 x20) fun y22 =>
      bindO (laws_toOp N y22) fun y23 =>
      bindO (idx x21 x20) fun y24 =>
      bindO (idx x21 x20) fun y25 =>
      kn (x19, (pAdd Go.IntKind.i64 x20 1), (pSet x21 x20 y23), ())) (
      kx (x21, ()))
noncomputable def laws_toOpS (N : Nat) (a0 : List (Int × Int × Unit)) : Option (List (Int × Int × Unit)) :=
  ifB (pEq (pLen a0) (pLen a0)) (
    ifB (pLe 0 (pLen a0)) (
      ifB (pLe (pLen a0) 68719476736) (
        loopP (laws_toOpS.l3 N) N (a0, 0, (pRepl (pLen a0) (0, (0, ()))), ()) (
          fun d =>
          let x26 := d.1;
          some x26)) (
        none)) (
      none)) (
    none)

noncomputable def spec_l13Op (N : Nat) (a0 : Int × Int × Unit) (a1 : Int) : Option (Bool) :=
  ifB (pEq a0.1 2) (
    bindO (
      ifB (pGe a0.2.1 0) (
        some (pLe a0.2.1 999999999)) (
        some false)) fun y9 =>
    some y9) (
    ifB (pEq a0.1 3) (
      bindO (
        ifB (pGe a0.2.1 0) (
          some (pLe a0.2.1 7)) (
          some false)) fun y10 =>
      some y10) (
      ifB (pEq a0.1 4) (
        bindO (
          ifB (pGe a0.2.1 0) (
            some (pLe a0.2.1 7)) (
            some false)) fun y11 =>
        some y11) (
        ifB (pEq a0.1 10) (
          bindO (
            ifB (pGe a0.2.1 18) (
              some (pLe a0.2.1 26)) (
              some false)) fun y12 =>
          some y12) (
          ifB (pEq a0.1 11) (
            bindO (
              ifB (pGe a0.2.1 0) (
                some (pLe a0.2.1 a1)) (
                some false)) fun y13 =>
            some y13) (
            ifB (pEq a0.1 12) (
              bindO (
                ifB (pGe a0.2.1 0) (
                  some (pLe a0.2.1 a1)) (
                  some false)) fun y14 =>
              some y14) (
              ifB (pEq a0.1 18) (
                bindO (
                  ifB (pGe a0.2.1 1) (
                    some (pLe a0.2.1 10)) (
                    some false)) fun y15 =>
                some y15) (
                bindO (
                  ifB (pGe a0.1 1) (
                    some (pLe a0.1 18)) (
                    some false)) fun y16 =>
                bindO (
                  ifB y16 (
                    some (pEq a0.2.1 0)) (
                    some false)) fun y17 =>
                some y17)))))))

noncomputable def spec_l13Takes (N : Nat) (a0 : Int) : Option (Int × Int) :=
  ifB (pEq a0 2) (
    some (0, 1)) (
    ifB (pEq a0 3) (
      some (0, 1)) (
      ifB (pEq a0 5) (
        some (0, 1)) (
        ifB (pEq a0 6) (
          some (0, 1)) (
          ifB (pEq a0 7) (
            some (0, 1)) (
            ifB (pEq a0 4) (
              some (1, 0)) (
              ifB (pEq a0 12) (
                some (1, 0)) (
                ifB (pEq a0 13) (
                  some (1, 0)) (
                  ifB (pEq a0 15) (
                    some (1, 0)) (
                    ifB (pEq a0 16) (
                      some (1, 0)) (
                      ifB (pEq a0 8) (
                        some (1, 1)) (
                        ifB (pEq a0 9) (
                          some (1, 1)) (
                          ifB (pEq a0 10) (
                            some (2, 1)) (
                            ifB (pEq a0 14) (
                              some (2, 0)) (
                              some (0, 0)))))))))))))))

noncomputable def spec_l13Depths.l4 {R : Type} (N : Nat) (d : (List (Int × Int × Unit)) × Int × Int × List Int × Unit) (kn : (List (Int × Int × Unit)) × Int × Int × List Int × Unit → Option R) (kx : (List (Int × Int × Unit)) × Int × List Int × Unit → Option R) : Option R :=
  let x149 := d.1;
  let x150 := d.2.1;
  let x151 := d.2.2.1;
  let x152 := d.2.2.2.1;
    ifB (pLe x151 x150) (
      ifB (pFit x152 [(-1)]) (
        kn (x149, x150, (pAdd Go.IntKind.i64 x151 1), (pApp x152 [(-1)]), ())) (
        none)) (
      kx (x149, x150, x152, ()))
noncomputable def spec_l13Depths.l24 {R : Type} (N : Nat) (d : (List (Int × Int × Unit)) × Int × Int × Int × List Int × List Int × List Int × Unit) (kn : (List (Int × Int × Unit)) × Int × Int × Int × List Int × List Int × List Int × Unit → Option R) (kx : ((List (Int × Int × Unit)) × Int × List Int × List Int × Unit) ⊕ (Bool × List Int × Unit) → Option R) : Option R :=
  let x171 := d.1;
  let x172 := d.2.1;
  let x173 := d.2.2.1;
  let x174 := d.2.2.2.1;
  let x175 := d.2.2.2.2.1;
  let x176 := d.2.2.2.2.2.1;
  let x177 := d.2.2.2.2.2.2.1;
    ifB (pLt x174 (pLen x177)) (
      bindO (A := ((List (Int × Int × Unit)) × Int × Int × Int × List Int × List Int × List Int × Unit) ⊕ (Bool × List Int × Unit)) (
        bindO (idx x177 x174) fun y178 =>
        bindO (idx x177 x174) fun y179 =>
        bindO (idx x175 y179) fun y180 =>
        bindO (idx x175 y179) fun y181 =>
        ifB (pEq y181 (-1)) (
          bindO (idx x177 x174) fun y182 =>
          bindO (idx x177 x174) fun y183 =>
          bindO (idx x175 y183) fun y184 =>
          bindO (idx x175 y183) fun y185 =>
          bindO (idx x177 x174) fun y186 =>
          bindO (idx x177 x174) fun y187 =>
          ifB (pFit x176 [y187]) (
            some (.inl (x171, x172, x173, x174, (pSet x175 y183 x173), (pApp x176 [y187]), x177, ()))) (
            none)) (
          bindO (idx x177 x174) fun y188 =>
          bindO (idx x177 x174) fun y189 =>
          bindO (idx x175 y189) fun y190 =>
          bindO (idx x175 y189) fun y191 =>
          ifB (pNe y191 x173) (
            some (.inr (false, x175, ()))) (
            some (.inl (x171, x172, x173, x174, x175, x176, x177, ()))))) (
        onSum (fun d =>
          let x192 := d.1;
          let x193 := d.2.1;
          let x194 := d.2.2.1;
          let x195 := d.2.2.2.1;
          let x196 := d.2.2.2.2.1;
          let x197 := d.2.2.2.2.2.1;
          let x198 := d.2.2.2.2.2.2.1;
          kn (x192, x193, x194, (pAdd Go.IntKind.i64 x195 1), x196, x197, x198, ())) (
        fun d =>
        let x199 := d.1;
        let x200 := d.2.1;
        kx (.inr (x199, x200, ()))))) (
      kx (.inl (x171, x172, x175, x176, ())))
noncomputable def spec_l13Depths.l9 {R : Type} (N : Nat) (d : (List (Int × Int × Unit)) × Int × List Int × List Int × Unit) (kn : (List (Int × Int × Unit)) × Int × List Int × List Int × Unit → Option R) (kx : (Int × List Int × Unit) ⊕ (Bool × List Int × Unit) → Option R) : Option R :=
  let x158 := d.1;
  let x159 := d.2.1;
  let x160 := d.2.2.1;
  let x161 := d.2.2.2.1;
    ifB (pGt (pLen x161) 0) (
      bindO (idx x161 (pSub Go.IntKind.i64 (pLen x161) 1)) fun y162 =>
      bindO (idx x161 (pSub Go.IntKind.i64 (pLen x161) 1)) fun y163 =>
      ifB (pLe 0 0) (
        ifB (pLe 0 (pSub Go.IntKind.i64 (pLen x161) 1)) (
          ifB (pLe (pSub Go.IntKind.i64 (pLen x161) 1) (pLen x161)) (
            ifB (pEq y163 x159) (
              kn (x158, x159, x160, (sub x161 0 (pSub Go.IntKind.i64 (pLen x161) 1)), ())) (
              bindO (idx x158 y163) fun y164 =>
              bindO (spec_l13Takes N y164.1) fun y165 =>
              bindO (idx x160 y163) fun y166 =>
              bindO (idx x160 y163) fun y167 =>
              bindO (
                ifB (pLt (pSub Go.IntKind.i64 y167 y165.1) 0) (
                  some true) (
                  some (pGt (pAdd Go.IntKind.i64 (pSub Go.IntKind.i64 y167 y165.1) y165.2) 24))) fun y168 =>
              ifB y168 (
                kx (.inr (false, x160, ()))) (
                bindO (idx x158 y163) fun y169 =>
                ifB (pEq y169.1 11) (
                  bindO (idx x158 y163) fun y170 =>
                  loopP (spec_l13Depths.l24 N) N (x158, x159, (pAdd Go.IntKind.i64 (pSub Go.IntKind.i64 y167 y165.1) y165.2), 0, x160, (sub x161 0 (pSub Go.IntKind.i64 (pLen x161) 1)), [y170.2.1], ()) (
                    onSum (fun d =>
                      let x201 := d.1;
                      let x202 := d.2.1;
                      let x203 := d.2.2.1;
                      let x204 := d.2.2.2.1;
                      kn (x201, x202, x203, x204, ())) (
                    fun d =>
                    let x205 := d.1;
                    let x206 := d.2.1;
                    kx (.inr (x205, x206, ()))))) (
                  bindO (idx x158 y163) fun y207 =>
                  ifB (pEq y207.1 12) (
                    bindO (idx x158 y163) fun y208 =>
                    ifB (pFit [(pAdd Go.IntKind.i64 y163 1)] [y208.2.1]) (
                      loopP (spec_l13Depths.l24 N) N (x158, x159, (pAdd Go.IntKind.i64 (pSub Go.IntKind.i64 y167 y165.1) y165.2), 0, x160, (sub x161 0 (pSub Go.IntKind.i64 (pLen x161) 1)), (pApp [(pAdd Go.IntKind.i64 y163 1)] [y208.2.1]), ()) (
                        onSum (fun d =>
                          let x239 := d.1;
                          let x240 := d.2.1;
                          let x241 := d.2.2.1;
                          let x242 := d.2.2.2.1;
                          kn (x239, x240, x241, x242, ())) (
                        fun d =>
                        let x243 := d.1;
                        let x244 := d.2.1;
                        kx (.inr (x243, x244, ()))))) (
                      none)) (
                    loopP (spec_l13Depths.l24 N) N (x158, x159, (pAdd Go.IntKind.i64 (pSub Go.IntKind.i64 y167 y165.1) y165.2), 0, x160, (sub x161 0 (pSub Go.IntKind.i64 (pLen x161) 1)), [(pAdd Go.IntKind.i64 y163 1)], ()) (
                      onSum (fun d =>
                        let x275 := d.1;
                        let x276 := d.2.1;
                        let x277 := d.2.2.1;
                        let x278 := d.2.2.2.1;
                        kn (x275, x276, x277, x278, ())) (
                      fun d =>
                      let x279 := d.1;
                      let x280 := d.2.1;
                      kx (.inr (x279, x280, ()))))))))) (
            none)) (
          none)) (
        none)) (
      kx (.inl (x159, x160, ())))
noncomputable def spec_l13Depths (N : Nat) (a0 : List (Int × Int × Unit)) : Option (List Int × Bool) :=
  loopP (spec_l13Depths.l4 N) N (a0, (pLen a0), 0, [], ()) (
    fun d =>
    let x153 := d.1;
    let x154 := d.2.1;
    let x155 := d.2.2.1;
    bindO (idx x155 0) fun y156 =>
    bindO (idx x155 0) fun y157 =>
    loopP (spec_l13Depths.l9 N) N (x153, x154, (pSet x155 0 0), [0], ()) (
      onSum (fun d =>
        let x281 := d.1;
        let x282 := d.2.1;
        bindO (idx x282 x281) fun y283 =>
        bindO (idx x282 x281) fun y284 =>
        some (x282, (pLe y284 0))) (
      fun d =>
      let x285 := d.1;
      let x286 := d.2.1;
      some (x286, x285))))

noncomputable def spec_CodeRight.l4 {R : Type} (N : Nat) (d : (List (Int × Int × Unit)) × Int × Unit) (kn : (List (Int × Int × Unit)) × Int × Unit → Option R) (kx : ((List (Int × Int × Unit)) × Unit) ⊕ (Bool × Unit) → Option R) : Option R :=
  let x13 := d.1;
  let x14 := d.2.1;
    ifB (pLt x14 (pLen x13)) (
      bindO (idx x13 x14) fun y15 =>
      bindO (spec_l13Op N y15 (pLen x13)) fun y16 =>
      ifB (pNot y16) (
        kx (.inr (false, ()))) (
        kn (x13, (pAdd Go.IntKind.i64 x14 1), ()))) (
      kx (.inl (x13, ())))
noncomputable def spec_CodeRight (N : Nat) (a0 : List (Int × Int × Unit)) : Option (Bool) :=
  ifB (pGt (pLen a0) 1500) (
    some false) (
    loopP (spec_CodeRight.l4 N) N (a0, 0, ()) (
      onSum (fun d =>
        let x17 := d.1;
        bindO (spec_l13Depths N x17) fun y18 =>
        some y18.2) (
      fun d =>
      let x19 := d.1;
      some x19)))

noncomputable def impl_size_Simpl_Op (N : Nat) (a0 : List (Int × Int × Unit)) : Option (Int) :=
  some (pLen a0)

noncomputable def impl_opRight (N : Nat) (a0 : Int × Int × Unit) (a1 : Int) : Option (Bool) :=
  ifB (pEq a0.1 2) (
    bindO (impl_within N a0.2.1 0 999999999) fun y9 =>
    some y9) (
    ifB (pEq a0.1 3) (
      bindO (impl_within N a0.2.1 0 7) fun y10 =>
      some y10) (
      ifB (pEq a0.1 4) (
        bindO (impl_within N a0.2.1 0 7) fun y11 =>
        some y11) (
        ifB (pEq a0.1 10) (
          bindO (impl_within N a0.2.1 18 26) fun y12 =>
          some y12) (
          ifB (pEq a0.1 11) (
            bindO (impl_within N a0.2.1 0 a1) fun y13 =>
            some y13) (
            ifB (pEq a0.1 12) (
              bindO (impl_within N a0.2.1 0 a1) fun y14 =>
              some y14) (
              ifB (pEq a0.1 18) (
                bindO (impl_within N a0.2.1 1 10) fun y15 =>
                some y15) (
                bindO (impl_within N a0.1 1 18) fun y16 =>
                bindO (
                  ifB y16 (
                    some (pEq a0.2.1 0)) (
                    some false)) fun y17 =>
                some y17)))))))

noncomputable def impl_depths_c1 (N : Nat) (a0 : Int × Int × Unit) (a1 : Int) : Option (Bool) :=
  bindO (impl_opRight N a0 a1) fun y1 =>
  some (pNot y1)

noncomputable def slices_IndexFunc_Simpl_Op_impl_Op__impl_depths_c1.l2 {R : Type} (N : Nat) (d : (List (Int × Int × Unit)) × Int × Int × Int × Unit) (kn : (List (Int × Int × Unit)) × Int × Int × Int × Unit → Option R) (kx : (Unit) ⊕ (Int × Unit) → Option R) : Option R :=
  let x15 := d.1;
  let x16 := d.2.1;
  let x17 := d.2.2.1;
  let x18 := d.2.2.2.1;
    ifB (pLt x18 x17) (
      bindO (idx x15 x18) fun y19 =>
      bindO (impl_depths_c1 N y19 x16) fun y20 =>
      ifB y20 (
        kx (.inr (x18, ()))) (
        kn (x15, x16, x17, (pAdd Go.IntKind.i64 x18 1), ()))) (
      kx (.inl (())))
noncomputable def slices_IndexFunc_Simpl_Op_impl_Op__impl_depths_c1 (N : Nat) (a0 : List (Int × Int × Unit)) (a1 : Int) : Option (Int) :=
  loopP (slices_IndexFunc_Simpl_Op_impl_Op__impl_depths_c1.l2 N) N (a0, a1, (pLen a0), 0, ()) (
    onSum (fun d =>
      some (-1)) (
    fun d =>
    let x21 := d.1;
    some x21))

noncomputable def slices_ContainsFunc_Simpl_Op_impl_Op__impl_depths_c1 (N : Nat) (a0 : List (Int × Int × Unit)) (a1 : Int) : Option (Bool) :=
  bindO (slices_IndexFunc_Simpl_Op_impl_Op__impl_depths_c1 N a0 a1) fun y1 =>
  some (pGe y1 0)

noncomputable def math_bits_Mul32 (N : Nat) (a0 : Int) (a1 : Int) : Option (Int × Int) :=
  ifB (pLt 32 0) (
    none) (
    some ((pConv Go.IntKind.u32 (pShr Go.IntKind.u64 (pMul Go.IntKind.u64 (pConv Go.IntKind.u64 a0) (pConv Go.IntKind.u64 a1)) 32)), (pConv Go.IntKind.u32 (pMul Go.IntKind.u64 (pConv Go.IntKind.u64 a0) (pConv Go.IntKind.u64 a1)))))

noncomputable def math_bits_Mul64 (N : Nat) (a0 : Int) (a1 : Int) : Option (Int × Int) :=
  ifB (pLt 32 0) (
    none) (
    ifB (pLt 32 0) (
      none) (
      ifB (pLt 32 0) (
        none) (
        ifB (pLt 32 0) (
          none) (
          ifB (pLt 32 0) (
            none) (
            some ((pAdd Go.IntKind.u64 (pAdd Go.IntKind.u64 (pMul Go.IntKind.u64 (pShr Go.IntKind.u64 a0 32) (pShr Go.IntKind.u64 a1 32)) (pShr Go.IntKind.u64 (pAdd Go.IntKind.u64 (pMul Go.IntKind.u64 (pShr Go.IntKind.u64 a0 32) (pAnd Go.IntKind.u64 a1 4294967295)) (pShr Go.IntKind.u64 (pMul Go.IntKind.u64 (pAnd Go.IntKind.u64 a0 4294967295) (pAnd Go.IntKind.u64 a1 4294967295)) 32)) 32)) (pShr Go.IntKind.u64 (pAdd Go.IntKind.u64 (pAnd Go.IntKind.u64 (pAdd Go.IntKind.u64 (pMul Go.IntKind.u64 (pShr Go.IntKind.u64 a0 32) (pAnd Go.IntKind.u64 a1 4294967295)) (pShr Go.IntKind.u64 (pMul Go.IntKind.u64 (pAnd Go.IntKind.u64 a0 4294967295) (pAnd Go.IntKind.u64 a1 4294967295)) 32)) 4294967295) (pMul Go.IntKind.u64 (pAnd Go.IntKind.u64 a0 4294967295) (pShr Go.IntKind.u64 a1 32))) 32)), (pMul Go.IntKind.u64 a0 a1)))))))

noncomputable def math_bits_Mul (N : Nat) (a0 : Int) (a1 : Int) : Option (Int × Int) :=
  bindO (math_bits_Mul64 N a0 a1) fun y1 =>
  some (y1.1, y1.2)

noncomputable def slices_Repeat_Sint64_int64.l8 {R : Type} (N : Nat) (d : Int × List Int × Unit) (kn : Int × List Int × Unit → Option R) (kx : List Int × Unit → Option R) : Option R :=
  let x10 := d.1;
  let x11 := d.2.1;
    ifB (pLt x10 (pLen x11)) (
      ifB (pLe 0 x10) (
        ifB (pLe x10 (pLen x11)) (
          ifB (pLe (pLen x11) (pLen x11)) (
            ifB (pLe 0 0) (
              ifB (pLe 0 x10) (
                ifB (pLe x10 (pLen x11)) (
                  kn ((pAdd Go.IntKind.i64 x10 (pMin (pDif (pLen x11) x10) (pLen (sub x11 0 x10)))), (pCopy x11 x10 (pMin (pDif (pLen x11) x10) (pLen (sub x11 0 x10))) (sub x11 0 x10)), ())) (
                  none)) (
                none)) (
              none)) (
            none)) (
          none)) (
        none)) (
      kx (x11, ()))
noncomputable def slices_Repeat_Sint64_int64 (N : Nat) (a0 : List (Int)) (a1 : Int) : Option (List Int) :=
  ifB (pLt a1 0) (
    none) (
    bindO (math_bits_Mul N (pConv Go.IntKind.u64 (pLen a0)) (pConv Go.IntKind.u64 a1)) fun y8 =>
    bindO (
      ifB (pGt y8.1 0) (
        some true) (
        some (pGt y8.2 9223372036854775807))) fun y9 =>
    ifB y9 (
      none) (
      ifB (pEq (pConv Go.IntKind.i64 y8.2) (pConv Go.IntKind.i64 y8.2)) (
        ifB (pLe 0 (pConv Go.IntKind.i64 y8.2)) (
          ifB (pLe (pConv Go.IntKind.i64 y8.2) 68719476736) (
            loopP (slices_Repeat_Sint64_int64.l8 N) N ((pMin (pDif (pLen (pRepl (pConv Go.IntKind.i64 y8.2) (0 : Int))) 0) (pLen a0)), (pCopy (pRepl (pConv Go.IntKind.i64 y8.2) (0 : Int)) 0 (pMin (pDif (pLen (pRepl (pConv Go.IntKind.i64 y8.2) (0 : Int))) 0) (pLen a0)) a0), ()) (
              fun d =>
              let x12 := d.1;
              some x12)) (
            none)) (
          none)) (
        none)))

noncomputable def impl_takes (N : Nat) (a0 : Int) : Option (Int × Int) :=
  ifB (pEq a0 2) (
    some (0, 1)) (
    ifB (pEq a0 3) (
      some (0, 1)) (
      ifB (pEq a0 5) (
        some (0, 1)) (
        ifB (pEq a0 6) (
          some (0, 1)) (
          ifB (pEq a0 7) (
            some (0, 1)) (
            ifB (pEq a0 4) (
              some (1, 0)) (
              ifB (pEq a0 12) (
                some (1, 0)) (
                ifB (pEq a0 13) (
                  some (1, 0)) (
                  ifB (pEq a0 15) (
                    some (1, 0)) (
                    ifB (pEq a0 16) (
                      some (1, 0)) (
                      ifB (pEq a0 8) (
                        some (1, 1)) (
                        ifB (pEq a0 9) (
                          some (1, 1)) (
                          ifB (pEq a0 10) (
                            some (2, 1)) (
                            ifB (pEq a0 14) (
                              some (2, 0)) (
                              some (0, 0)))))))))))))))

noncomputable def impl_depths.l24 {R : Type} (N : Nat) (d : (List (Int × Int × Unit)) × Int × Int × Int × Int × Int × List Int × List Int × List Int × Unit) (kn : (List (Int × Int × Unit)) × Int × Int × Int × Int × Int × List Int × List Int × List Int × Unit → Option R) (kx : ((List (Int × Int × Unit)) × Int × List Int × List Int × Unit) ⊕ (Bool × List Int × Unit) → Option R) : Option R :=
  let x159 := d.1;
  let x160 := d.2.1;
  let x161 := d.2.2.1;
  let x162 := d.2.2.2.1;
  let x163 := d.2.2.2.2.1;
  let x164 := d.2.2.2.2.2.1;
  let x165 := d.2.2.2.2.2.2.1;
  let x166 := d.2.2.2.2.2.2.2.1;
  let x167 := d.2.2.2.2.2.2.2.2.1;
    ifB (pLt x163 x162) (
      bindO (A := ((List (Int × Int × Unit)) × Int × Int × Int × Int × Int × List Int × List Int × List Int × Unit) ⊕ (Bool × List Int × Unit)) (
        bindO (idx x167 x163) fun y168 =>
        bindO (idx x167 x163) fun y169 =>
        bindO (idx x165 y169) fun y170 =>
        bindO (idx x165 y169) fun y171 =>
        ifB (pEq y171 (-1)) (
          bindO (idx x165 y169) fun y172 =>
          bindO (idx x165 y169) fun y173 =>
          ifB (pFit x166 [y169]) (
            some (.inl (x159, x160, x161, x162, x163, x164, (pSet x165 y169 (pAdd Go.IntKind.i64 x161 x160)), (pApp x166 [y169]), x167, ()))) (
            none)) (
          ifB (pEq y171 (pAdd Go.IntKind.i64 x161 x160)) (
            some (.inl (x159, x160, x161, x162, x163, x164, x165, x166, x167, ()))) (
            some (.inr (false, [], ()))))) (
        onSum (fun d =>
          let x174 := d.1;
          let x175 := d.2.1;
          let x176 := d.2.2.1;
          let x177 := d.2.2.2.1;
          let x178 := d.2.2.2.2.1;
          let x179 := d.2.2.2.2.2.1;
          let x180 := d.2.2.2.2.2.2.1;
          let x181 := d.2.2.2.2.2.2.2.1;
          let x182 := d.2.2.2.2.2.2.2.2.1;
          kn (x174, x175, x176, x177, (pAdd Go.IntKind.i64 x178 1), x179, x180, x181, x182, ())) (
        fun d =>
        let x183 := d.1;
        let x184 := d.2.1;
        kx (.inr (x183, x184, ()))))) (
      kx (.inl (x159, x164, x165, x166, ())))
noncomputable def impl_depths.l7 {R : Type} (N : Nat) (d : (List (Int × Int × Unit)) × Int × List Int × List Int × Unit) (kn : (List (Int × Int × Unit)) × Int × List Int × List Int × Unit → Option R) (kx : (List Int × Unit) ⊕ (Bool × List Int × Unit) → Option R) : Option R :=
  let x145 := d.1;
  let x146 := d.2.1;
  let x147 := d.2.2.1;
  let x148 := d.2.2.2.1;
    ifB (pGt (pLen x148) 0) (
      bindO (idx x148 (pSub Go.IntKind.i64 (pLen x148) 1)) fun y149 =>
      bindO (idx x148 (pSub Go.IntKind.i64 (pLen x148) 1)) fun y150 =>
      ifB (pLe 0 0) (
        ifB (pLe 0 (pSub Go.IntKind.i64 (pLen x148) 1)) (
          ifB (pLe (pSub Go.IntKind.i64 (pLen x148) 1) (pLen x148)) (
            ifB (pEq y150 x146) (
              bindO (idx x147 x146) fun y151 =>
              bindO (idx x147 x146) fun y152 =>
              ifB (pNe y152 0) (
                kx (.inr (false, [], ()))) (
                kn (x145, x146, x147, (sub x148 0 (pSub Go.IntKind.i64 (pLen x148) 1)), ()))) (
              bindO (idx x145 y150) fun y153 =>
              bindO (impl_takes N y153.1) fun y154 =>
              bindO (idx x147 y150) fun y155 =>
              bindO (idx x147 y150) fun y156 =>
              bindO (
                ifB (pLt (pSub Go.IntKind.i64 y156 y154.1) 0) (
                  some true) (
                  some (pGt (pAdd Go.IntKind.i64 (pSub Go.IntKind.i64 y156 y154.1) y154.2) 24))) fun y157 =>
              ifB y157 (
                kx (.inr (false, [], ()))) (
                ifB (pNe y153.1 11) (
                  ifB (pFit [] [(pAdd Go.IntKind.i64 y150 1)]) (
                    bindO (
                      ifB (pEq y153.1 11) (
                        some true) (
                        some (pEq y153.1 12))) fun y158 =>
                    ifB y158 (
                      ifB (pFit (pApp [] [(pAdd Go.IntKind.i64 y150 1)]) [y153.2.1]) (
                        loopP (impl_depths.l24 N) N (x145, y154.2, (pSub Go.IntKind.i64 y156 y154.1), (pLen (pApp (pApp [] [(pAdd Go.IntKind.i64 y150 1)]) [y153.2.1])), 0, x146, x147, (sub x148 0 (pSub Go.IntKind.i64 (pLen x148) 1)), (pApp (pApp [] [(pAdd Go.IntKind.i64 y150 1)]) [y153.2.1]), ()) (
                          onSum (fun d =>
                            let x185 := d.1;
                            let x186 := d.2.1;
                            let x187 := d.2.2.1;
                            let x188 := d.2.2.2.1;
                            kn (x185, x186, x187, x188, ())) (
                          fun d =>
                          let x189 := d.1;
                          let x190 := d.2.1;
                          kx (.inr (x189, x190, ()))))) (
                        none)) (
                      loopP (impl_depths.l24 N) N (x145, y154.2, (pSub Go.IntKind.i64 y156 y154.1), (pLen (pApp [] [(pAdd Go.IntKind.i64 y150 1)])), 0, x146, x147, (sub x148 0 (pSub Go.IntKind.i64 (pLen x148) 1)), (pApp [] [(pAdd Go.IntKind.i64 y150 1)]), ()) (
                        onSum (fun d =>
                          let x217 := d.1;
                          let x218 := d.2.1;
                          let x219 := d.2.2.1;
                          let x220 := d.2.2.2.1;
                          kn (x217, x218, x219, x220, ())) (
                        fun d =>
                        let x221 := d.1;
                        let x222 := d.2.1;
                        kx (.inr (x221, x222, ())))))) (
                    none)) (
                  bindO (
                    ifB (pEq y153.1 11) (
                      some true) (
                      some (pEq y153.1 12))) fun y223 =>
                  ifB y223 (
                    ifB (pFit [] [y153.2.1]) (
                      loopP (impl_depths.l24 N) N (x145, y154.2, (pSub Go.IntKind.i64 y156 y154.1), (pLen (pApp [] [y153.2.1])), 0, x146, x147, (sub x148 0 (pSub Go.IntKind.i64 (pLen x148) 1)), (pApp [] [y153.2.1]), ()) (
                        onSum (fun d =>
                          let x250 := d.1;
                          let x251 := d.2.1;
                          let x252 := d.2.2.1;
                          let x253 := d.2.2.2.1;
                          kn (x250, x251, x252, x253, ())) (
                        fun d =>
                        let x254 := d.1;
                        let x255 := d.2.1;
                        kx (.inr (x254, x255, ()))))) (
                      none)) (
                    loopP (impl_depths.l24 N) N (x145, y154.2, (pSub Go.IntKind.i64 y156 y154.1), (pLen ([] : List Int)), 0, x146, x147, (sub x148 0 (pSub Go.IntKind.i64 (pLen x148) 1)), [], ()) (
                      onSum (fun d =>
                        let x282 := d.1;
                        let x283 := d.2.1;
                        let x284 := d.2.2.1;
                        let x285 := d.2.2.2.1;
                        kn (x282, x283, x284, x285, ())) (
                      fun d =>
                      let x286 := d.1;
                      let x287 := d.2.1;
                      kx (.inr (x286, x287, ()))))))))) (
            none)) (
          none)) (
        none)) (
      kx (.inl (x147, ())))
noncomputable def impl_depths (N : Nat) (a0 : List (Int × Int × Unit)) : Option (List Int × Bool) :=
  bindO (impl_size_Simpl_Op N a0) fun y139 =>
  bindO (
    ifB (pGt y139 1500) (
      some true) (
      bindO (slices_ContainsFunc_Simpl_Op_impl_Op__impl_depths_c1 N a0 y139) fun y141 =>
      some y141)) fun y140 =>
  ifB y140 (
    some ([], false)) (
    bindO (slices_Repeat_Sint64_int64 N [(-1)] (pAdd Go.IntKind.i64 y139 1)) fun y142 =>
    bindO (idx y142 0) fun y143 =>
    bindO (idx y142 0) fun y144 =>
    loopP (impl_depths.l7 N) N (a0, y139, (pSet y142 0 0), [0], ()) (
      onSum (fun d =>
        let x288 := d.1;
        some (x288, true)) (
      fun d =>
      let x289 := d.1;
      let x290 := d.2.1;
      some (x290, x289))))

noncomputable def impl_CodeRight (N : Nat) (a0 : List (Int × Int × Unit)) : Option (Bool) :=
  bindO (impl_depths N a0) fun y1 =>
  some y1.2

noncomputable def laws_eqOp (N : Nat) (a0 : Int × Int × Unit) (a1 : Int × Int × Unit) : Option (Bool) :=
  ifB (pNe a0.1 a1.1) (
    some false) (
    ifB (pNe a0.2.1 a1.2.1) (
      some false) (
      some true))

noncomputable def laws_eqOpS.l4 {R : Type} (N : Nat) (d : (List (Int × Int × Unit)) × (List (Int × Int × Unit)) × Int × Unit) (kn : (List (Int × Int × Unit)) × (List (Int × Int × Unit)) × Int × Unit → Option R) (kx : (Unit) ⊕ (Bool × Unit) → Option R) : Option R :=
  let x16 := d.1;
  let x17 := d.2.1;
  let x18 := d.2.2.1;
    ifB (pLt x18 (pLen x16)) (
      bindO (idx x16 x18) fun y19 =>
      bindO (idx x17 x18) fun y20 =>
      bindO (laws_eqOp N y19 y20) fun y21 =>
      ifB (pNot y21) (
        kx (.inr (false, ()))) (
        kn (x16, x17, (pAdd Go.IntKind.i64 x18 1), ()))) (
      kx (.inl (())))
noncomputable def laws_eqOpS (N : Nat) (a0 : List (Int × Int × Unit)) (a1 : List (Int × Int × Unit)) : Option (Bool) :=
  ifB (pNe (pLen a0) (pLen a1)) (
    some false) (
    loopP (laws_eqOpS.l4 N) N (a0, a1, 0, ()) (
      onSum (fun d =>
        some true) (
      fun d =>
      let x22 := d.1;
      some x22)))

noncomputable def laws_FnExactCodeRight (N : Nat) (a0 : List (Int × Int × Unit)) : Option (Bool) :=
  bindO (laws_szOpS N a0 1048576) fun y7 =>
  ifB (pLt y7 0) (
    some true) (
    bindO (laws_toOpS N a0) fun y8 =>
    bindO (spec_CodeRight N y8) fun y9 =>
    bindO (laws_toOpS N a0) fun y10 =>
    bindO (impl_CodeRight N y10) fun y11 =>
    ifB (pNot (pBeq y11 y9)) (
      some false) (
      bindO (laws_toOpS N a0) fun y12 =>
      bindO (laws_eqOpS N y10 y12) fun y13 =>
      ifB (pNot y13) (
        some false) (
        some true)))

noncomputable def spec_CodeDepths (N : Nat) (a0 : List (Int × Int × Unit)) : Option (List Int) :=
  bindO (spec_CodeRight N a0) fun y2 =>
  ifB (pNot y2) (
    some []) (
    bindO (spec_l13Depths N a0) fun y3 =>
    ifB (pLe 0 0) (
      ifB (pLe 0 (pLen a0)) (
        ifB (pLe (pLen a0) (pLen y3.1)) (
          some (sub y3.1 0 (pLen a0))) (
          none)) (
        none)) (
      none))

noncomputable def spec_OpsUsed.l4 {R : Type} (N : Nat) (d : Int × Int × List Int × Unit) (kn : Int × Int × List Int × Unit → Option R) (kx : Int × Unit → Option R) : Option R :=
  let x19 := d.1;
  let x20 := d.2.1;
  let x21 := d.2.2.1;
    ifB (pLt x20 (pLen x21)) (
      bindO (A := Int × Int × List Int × Unit) (
        bindO (idx x21 x20) fun y22 =>
        bindO (idx x21 x20) fun y23 =>
        ifB (pGe y23 0) (
          some ((pAdd Go.IntKind.i64 x19 1), x20, x21, ())) (
          some (x19, x20, x21, ()))) (
        fun d =>
        let x24 := d.1;
        let x25 := d.2.1;
        let x26 := d.2.2.1;
        kn (x24, (pAdd Go.IntKind.i64 x25 1), x26, ()))) (
      kx (x19, ()))
noncomputable def spec_OpsUsed (N : Nat) (a0 : List (Int × Int × Unit)) : Option (Int) :=
  bindO (spec_CodeDepths N a0) fun y18 =>
  loopP (spec_OpsUsed.l4 N) N (0, 0, y18, ()) (
    fun d =>
    let x27 := d.1;
    some x27)

noncomputable def impl_CodeDepths (N : Nat) (a0 : List (Int × Int × Unit)) : Option (List Int) :=
  bindO (impl_depths N a0) fun y1 =>
  ifB (pNot y1.2) (
    some []) (
    ifB (pLe 0 0) (
      ifB (pLe 0 (pLen a0)) (
        ifB (pLe (pLen a0) (pLen y1.1)) (
          some (sub y1.1 0 (pLen a0))) (
          none)) (
        none)) (
      none))

noncomputable def impl_OpsUsed.l3 {R : Type} (N : Nat) (d : Int × List Int × Int × Int × Unit) (kn : Int × List Int × Int × Int × Unit → Option R) (kx : Int × Unit → Option R) : Option R :=
  let x21 := d.1;
  let x22 := d.2.1;
  let x23 := d.2.2.1;
  let x24 := d.2.2.2.1;
    ifB (pLt x24 x23) (
      bindO (A := Int × List Int × Int × Int × Unit) (
        bindO (idx x22 x24) fun y25 =>
        ifB (pGe y25 0) (
          some ((pAdd Go.IntKind.i64 x21 1), x22, x23, x24, ())) (
          some (x21, x22, x23, x24, ()))) (
        fun d =>
        let x26 := d.1;
        let x27 := d.2.1;
        let x28 := d.2.2.1;
        let x29 := d.2.2.2.1;
        kn (x26, x27, x28, (pAdd Go.IntKind.i64 x29 1), ()))) (
      kx (x21, ()))
noncomputable def impl_OpsUsed (N : Nat) (a0 : List (Int × Int × Unit)) : Option (Int) :=
  bindO (impl_CodeDepths N a0) fun y20 =>
  loopP (impl_OpsUsed.l3 N) N (0, y20, (pLen y20), 0, ()) (
    fun d =>
    let x30 := d.1;
    some x30)

noncomputable def laws_FnExactOpsUsed (N : Nat) (a0 : List (Int × Int × Unit)) : Option (Bool) :=
  bindO (laws_szOpS N a0 1048576) fun y7 =>
  ifB (pLt y7 0) (
    some true) (
    bindO (laws_toOpS N a0) fun y8 =>
    bindO (spec_OpsUsed N y8) fun y9 =>
    bindO (laws_toOpS N a0) fun y10 =>
    bindO (impl_OpsUsed N y10) fun y11 =>
    ifB (pNe y11 y9) (
      some false) (
      bindO (laws_toOpS N a0) fun y12 =>
      bindO (laws_eqOpS N y10 y12) fun y13 =>
      ifB (pNot y13) (
        some false) (
        some true)))

end Go.AE.F
