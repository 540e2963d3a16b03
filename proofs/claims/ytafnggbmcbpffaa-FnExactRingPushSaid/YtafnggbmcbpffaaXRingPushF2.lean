/- Functions as they are printed out of the program: plain Lean, nothing is claimed here. -/
import Derived.Test.YtafnggbmcbpffaaXRingPushF1
noncomputable section
namespace Go.AE.F
open Go.AE
def slices_ContainsFunc_Simpl_Op_impl_Op__impl_depths_c1 (N : Nat) (a0 : List (Int × Int × Unit)) (a1 : Int) : Option (Bool) :=
 bindO (slices_IndexFunc_Simpl_Op_impl_Op__impl_depths_c1 N a0 a1) fun y1 =>
 some (pGe y1 0)
def math_bits_Mul64 (N : Nat) (a0 : Int) (a1 : Int) : Option (Int × Int) :=
 ifB (pLt 32 0) (
 none) (
 ifB (pLt 32 0) (
 none) (
 ifB (pLt 32 0) (
 none) (
 ifB (pLt 32 0) (
 none) (
 ifB (pLt 32 0) (
 none) (
 some ((pAdd .u64 (pAdd .u64 (pMul .u64 (pShr .u64 a0 32) (pShr .u64 a1 32)) (pShr .u64 (pAdd .u64 (pMul .u64 (pShr .u64 a0 32) (pAnd .u64 a1 4294967295)) (pShr .u64 (pMul .u64 (pAnd .u64 a0 4294967295) (pAnd .u64 a1 4294967295)) 32)) 32)) (pShr .u64 (pAdd .u64 (pAnd .u64 (pAdd .u64 (pMul .u64 (pShr .u64 a0 32) (pAnd .u64 a1 4294967295)) (pShr .u64 (pMul .u64 (pAnd .u64 a0 4294967295) (pAnd .u64 a1 4294967295)) 32)) 4294967295) (pMul .u64 (pAnd .u64 a0 4294967295) (pShr .u64 a1 32))) 32)), (pMul .u64 a0 a1)))))))
def math_bits_Mul (N : Nat) (a0 : Int) (a1 : Int) : Option (Int × Int) :=
 bindO (math_bits_Mul64 N a0 a1) fun y1 =>
 some (y1.1, y1.2)
def slices_Repeat_Sint64_int64.l8 {R : Type} (N : Nat) (d : Int × List Int × Unit) (kn : Int × List Int × Unit → Option R) (kx : List Int × Unit → Option R) : Option R :=
 let x10 := d.1;
 let x11 := d.2.1;
 ifB (pLt x10 (pLen x11)) (
 ifB (pLe 0 x10) (
 ifB (pLe x10 (pLen x11)) (
 ifB (pLe (pLen x11) (pLen x11)) (
 ifB (pLe 0 0) (
 ifB (pLe 0 x10) (
 ifB (pLe x10 (pLen x11)) (
 kn ((pAdd .i64 x10 (pMin (pDif (pLen x11) x10) (pLen (sub x11 0 x10)))), (pCopy x11 x10 (pMin (pDif (pLen x11) x10) (pLen (sub x11 0 x10))) (sub x11 0 x10)), ())) (
 none)) (
 none)) (
 none)) (
 none)) (
 none)) (
 none)) (
 kx (x11, ()))
def slices_Repeat_Sint64_int64 (N : Nat) (a0 : List (Int)) (a1 : Int) : Option (List Int) :=
 ifB (pLt a1 0) (
 none) (
 bindO (math_bits_Mul N (pConv .u64 (pLen a0)) (pConv .u64 a1)) fun y8 =>
 bindO (
 ifB (pGt y8.1 0) (
 some true) (
 some (pGt y8.2 9223372036854775807))) fun y9 =>
 ifB y9 (
 none) (
 ifB (pEq (pConv .i64 y8.2) (pConv .i64 y8.2)) (
 ifB (pLe 0 (pConv .i64 y8.2)) (
 ifB (pLe (pConv .i64 y8.2) 68719476736) (
 loopP (slices_Repeat_Sint64_int64.l8 N) N ((pMin (pDif (pLen (pRepl (pConv .i64 y8.2) (0 : Int))) 0) (pLen a0)), (pCopy (pRepl (pConv .i64 y8.2) (0 : Int)) 0 (pMin (pDif (pLen (pRepl (pConv .i64 y8.2) (0 : Int))) 0) (pLen a0)) a0), ()) (
 fun d =>
 let x12 := d.1;
 some x12)) (
 none)) (
 none)) (
 none)))
def impl_takes (N : Nat) (a0 : Int) : Option (Int × Int) :=
 ifB (pEq a0 2) (
 some (0, 1)) (
 ifB (pEq a0 3) (
 some (0, 1)) (
 ifB (pEq a0 5) (
 some (0, 1)) (
 ifB (pEq a0 6) (
 some (0, 1)) (
 ifB (pEq a0 7) (
 some (0, 1)) (
 ifB (pEq a0 4) (
 some (1, 0)) (
 ifB (pEq a0 12) (
 some (1, 0)) (
 ifB (pEq a0 13) (
 some (1, 0)) (
 ifB (pEq a0 15) (
 some (1, 0)) (
 ifB (pEq a0 16) (
 some (1, 0)) (
 ifB (pEq a0 8) (
 some (1, 1)) (
 ifB (pEq a0 9) (
 some (1, 1)) (
 ifB (pEq a0 10) (
 some (2, 1)) (
 ifB (pEq a0 14) (
 some (2, 0)) (
 some (0, 0)))))))))))))))
def impl_depths.l24 {R : Type} (N : Nat) (d : (List (Int × Int × Unit)) × Int × Int × Int × Int × Int × List Int × List Int × List Int × Unit) (kn : (List (Int × Int × Unit)) × Int × Int × Int × Int × Int × List Int × List Int × List Int × Unit → Option R) (kx : ((List (Int × Int × Unit)) × Int × List Int × List Int × Unit) ⊕ (Bool × List Int × Unit) → Option R) : Option R :=
 let x159 := d.1;
 let x160 := d.2.1;
 let x161 := d.2.2.1;
 let x162 := d.2.2.2.1;
 let x163 := d.2.2.2.2.1;
 let x164 := d.2.2.2.2.2.1;
 let x165 := d.2.2.2.2.2.2.1;
 let x166 := d.2.2.2.2.2.2.2.1;
 let x167 := d.2.2.2.2.2.2.2.2.1;
 ifB (pLt x163 x162) (
 bindO (A := ((List (Int × Int × Unit)) × Int × Int × Int × Int × Int × List Int × List Int × List Int × Unit) ⊕ (Bool × List Int × Unit)) (
 bindO (idx x167 x163) fun y168 =>
 bindO (idx x167 x163) fun y169 =>
 bindO (idx x165 y169) fun y170 =>
 bindO (idx x165 y169) fun y171 =>
 ifB (pEq y171 (-1)) (
 bindO (idx x165 y169) fun y172 =>
 bindO (idx x165 y169) fun y173 =>
 ifB (pFit x166 [y169]) (
 some (.inl (x159, x160, x161, x162, x163, x164, (pSet x165 y169 (pAdd .i64 x161 x160)), (pApp x166 [y169]), x167, ()))) (
 none)) (
 ifB (pEq y171 (pAdd .i64 x161 x160)) (
 some (.inl (x159, x160, x161, x162, x163, x164, x165, x166, x167, ()))) (
 some (.inr (false, [], ()))))) (
 onSum (fun d =>
 let x174 := d.1;
 let x175 := d.2.1;
 let x176 := d.2.2.1;
 let x177 := d.2.2.2.1;
 let x178 := d.2.2.2.2.1;
 let x179 := d.2.2.2.2.2.1;
 let x180 := d.2.2.2.2.2.2.1;
 let x181 := d.2.2.2.2.2.2.2.1;
 let x182 := d.2.2.2.2.2.2.2.2.1;
 kn (x174, x175, x176, x177, (pAdd .i64 x178 1), x179, x180, x181, x182, ())) (
 fun d =>
 let x183 := d.1;
 let x184 := d.2.1;
 kx (.inr (x183, x184, ()))))) (
 kx (.inl (x159, x164, x165, x166, ())))
def impl_depths.l7 {R : Type} (N : Nat) (d : (List (Int × Int × Unit)) × Int × List Int × List Int × Unit) (kn : (List (Int × Int × Unit)) × Int × List Int × List Int × Unit → Option R) (kx : (List Int × Unit) ⊕ (Bool × List Int × Unit) → Option R) : Option R :=
 let x145 := d.1;
 let x146 := d.2.1;
 let x147 := d.2.2.1;
 let x148 := d.2.2.2.1;
 ifB (pGt (pLen x148) 0) (
 bindO (idx x148 (pSub .i64 (pLen x148) 1)) fun y149 =>
 bindO (idx x148 (pSub .i64 (pLen x148) 1)) fun y150 =>
 ifB (pLe 0 0) (
 ifB (pLe 0 (pSub .i64 (pLen x148) 1)) (
 ifB (pLe (pSub .i64 (pLen x148) 1) (pLen x148)) (
 ifB (pEq y150 x146) (
 bindO (idx x147 x146) fun y151 =>
 bindO (idx x147 x146) fun y152 =>
 ifB (pNe y152 0) (
 kx (.inr (false, [], ()))) (
 kn (x145, x146, x147, (sub x148 0 (pSub .i64 (pLen x148) 1)), ()))) (
 bindO (idx x145 y150) fun y153 =>
 bindO (impl_takes N y153.1) fun y154 =>
 bindO (idx x147 y150) fun y155 =>
 bindO (idx x147 y150) fun y156 =>
 bindO (
 ifB (pLt (pSub .i64 y156 y154.1) 0) (
 some true) (
 some (pGt (pAdd .i64 (pSub .i64 y156 y154.1) y154.2) 24))) fun y157 =>
 ifB y157 (
 kx (.inr (false, [], ()))) (
 ifB (pNe y153.1 11) (
 ifB (pFit [] [(pAdd .i64 y150 1)]) (
 bindO (
 ifB (pEq y153.1 11) (
 some true) (
 some (pEq y153.1 12))) fun y158 =>
 ifB y158 (
 ifB (pFit (pApp [] [(pAdd .i64 y150 1)]) [y153.2.1]) (
 loopP (impl_depths.l24 N) N (x145, y154.2, (pSub .i64 y156 y154.1), (pLen (pApp (pApp [] [(pAdd .i64 y150 1)]) [y153.2.1])), 0, x146, x147, (sub x148 0 (pSub .i64 (pLen x148) 1)), (pApp (pApp [] [(pAdd .i64 y150 1)]) [y153.2.1]), ()) (
 onSum (fun d =>
 let x185 := d.1;
 let x186 := d.2.1;
 let x187 := d.2.2.1;
 let x188 := d.2.2.2.1;
 kn (x185, x186, x187, x188, ())) (
 fun d =>
 let x189 := d.1;
 let x190 := d.2.1;
 kx (.inr (x189, x190, ()))))) (
 none)) (
 loopP (impl_depths.l24 N) N (x145, y154.2, (pSub .i64 y156 y154.1), (pLen (pApp [] [(pAdd .i64 y150 1)])), 0, x146, x147, (sub x148 0 (pSub .i64 (pLen x148) 1)), (pApp [] [(pAdd .i64 y150 1)]), ()) (
 onSum (fun d =>
 let x217 := d.1;
 let x218 := d.2.1;
 let x219 := d.2.2.1;
 let x220 := d.2.2.2.1;
 kn (x217, x218, x219, x220, ())) (
 fun d =>
 let x221 := d.1;
 let x222 := d.2.1;
 kx (.inr (x221, x222, ())))))) (
 none)) (
 bindO (
 ifB (pEq y153.1 11) (
 some true) (
 some (pEq y153.1 12))) fun y223 =>
 ifB y223 (
 ifB (pFit [] [y153.2.1]) (
 loopP (impl_depths.l24 N) N (x145, y154.2, (pSub .i64 y156 y154.1), (pLen (pApp [] [y153.2.1])), 0, x146, x147, (sub x148 0 (pSub .i64 (pLen x148) 1)), (pApp [] [y153.2.1]), ()) (
 onSum (fun d =>
 let x250 := d.1;
 let x251 := d.2.1;
 let x252 := d.2.2.1;
 let x253 := d.2.2.2.1;
 kn (x250, x251, x252, x253, ())) (
 fun d =>
 let x254 := d.1;
 let x255 := d.2.1;
 kx (.inr (x254, x255, ()))))) (
 none)) (
 loopP (impl_depths.l24 N) N (x145, y154.2, (pSub .i64 y156 y154.1), (pLen ([] : List Int)), 0, x146, x147, (sub x148 0 (pSub .i64 (pLen x148) 1)), [], ()) (
 onSum (fun d =>
 let x282 := d.1;
 let x283 := d.2.1;
 let x284 := d.2.2.1;
 let x285 := d.2.2.2.1;
 kn (x282, x283, x284, x285, ())) (
 fun d =>
 let x286 := d.1;
 let x287 := d.2.1;
 kx (.inr (x286, x287, ()))))))))) (
 none)) (
 none)) (
 none)) (
 kx (.inl (x147, ())))
def impl_depths (N : Nat) (a0 : List (Int × Int × Unit)) : Option (List Int × Bool) :=
 bindO (impl_size_Simpl_Op N a0) fun y139 =>
 bindO (
 ifB (pGt y139 1500) (
 some true) (
 bindO (slices_ContainsFunc_Simpl_Op_impl_Op__impl_depths_c1 N a0 y139) fun y141 =>
 some y141)) fun y140 =>
 ifB y140 (
 some ([], false)) (
 bindO (slices_Repeat_Sint64_int64 N [(-1)] (pAdd .i64 y139 1)) fun y142 =>
 bindO (idx y142 0) fun y143 =>
 bindO (idx y142 0) fun y144 =>
 loopP (impl_depths.l7 N) N (a0, y139, (pSet y142 0 0), [0], ()) (
 onSum (fun d =>
 let x288 := d.1;
 some (x288, true)) (
 fun d =>
 let x289 := d.1;
 let x290 := d.2.1;
 some (x290, x289))))
def spec_l04Items.l4 {R : Type} (N : Nat) (d : List (List Int) × Int × Unit) (kn : List (List Int) × Int × Unit → Option R) (kx : (Unit) ⊕ (Bool × Unit) → Option R) : Option R :=
 let x17 := d.1;
 let x18 := d.2.1;
 ifB (pLt x18 (pLen x17)) (
 bindO (idx x17 x18) fun y19 =>
 bindO (
 ifB (pEq (pLen y19) 0) (
 some true) (
 bindO (idx x17 x18) fun y21 =>
 bindO (spec_PointsRight N y21) fun y22 =>
 some (pNot y22))) fun y20 =>
 ifB y20 (
 kx (.inr (false, ()))) (
 kn (x17, (pAdd .i64 x18 1), ()))) (
 kx (.inl (())))
def spec_l04Items (N : Nat) (a0 : List (List (Int))) (a1 : Int) : Option (Bool) :=
 ifB (pGt (pLen a0) a1) (
 some false) (
 loopP (spec_l04Items.l4 N) N (a0, 0, ()) (
 onSum (fun d =>
 some true) (
 fun d =>
 let x23 := d.1;
 some x23)))
def impl_ownLists.l3 {R : Type} (N : Nat) (d : List (List Int) × Int × Int × List (List Int) × Unit) (kn : List (List Int) × Int × Int × List (List Int) × Unit → Option R) (kx : List (List Int) × Unit → Option R) : Option R :=
 let x15 := d.1;
 let x16 := d.2.1;
 let x17 := d.2.2.1;
 let x18 := d.2.2.2.1;
 ifB (pLt x17 x16) (
 bindO (idx x15 x17) fun y19 =>
 bindO (slices_Clone_Sint64_int64 N y19) fun y20 =>
 ifB (pFit x18 [y20]) (
 kn (x15, x16, (pAdd .i64 x17 1), (pApp x18 [y20]), ())) (
 none)) (
 kx (x18, ()))
def impl_ownLists (N : Nat) (a0 : List (List (Int))) : Option (List (List Int)) :=
 loopP (impl_ownLists.l3 N) N (a0, (pLen a0), 0, [], ()) (
 fun d =>
 let x21 := d.1;
 some x21)
def impl_isItem (N : Nat) (a0 : List (Int)) : Option (Bool) :=
 bindO (
 ifB (pGt (pLen a0) 0) (
 bindO (impl_PointsRight N a0) fun y3 =>
 some y3) (
 some false)) fun y2 =>
 some y2
def impl_areItems_c1 (N : Nat) (a0 : List (Int)) : Option (Bool) :=
 bindO (impl_isItem N a0) fun y1 =>
 some (pNot y1)
def slices_IndexFunc_S_Sint64__Sint64__impl_areItems_c1.l2 {R : Type} (N : Nat) (d : List (List Int) × Int × Int × Unit) (kn : List (List Int) × Int × Int × Unit → Option R) (kx : (Unit) ⊕ (Int × Unit) → Option R) : Option R :=
 let x13 := d.1;
 let x14 := d.2.1;
 let x15 := d.2.2.1;
 ifB (pLt x15 x14) (
 bindO (idx x13 x15) fun y16 =>
 bindO (impl_areItems_c1 N y16) fun y17 =>
 ifB y17 (
 kx (.inr (x15, ()))) (
 kn (x13, x14, (pAdd .i64 x15 1), ()))) (
 kx (.inl (())))
def slices_IndexFunc_S_Sint64__Sint64__impl_areItems_c1 (N : Nat) (a0 : List (List (Int))) : Option (Int) :=
 loopP (slices_IndexFunc_S_Sint64__Sint64__impl_areItems_c1.l2 N) N (a0, (pLen a0), 0, ()) (
 onSum (fun d =>
 some (-1)) (
 fun d =>
 let x18 := d.1;
 some x18))
def slices_ContainsFunc_S_Sint64__Sint64__impl_areItems_c1 (N : Nat) (a0 : List (List (Int))) : Option (Bool) :=
 bindO (slices_IndexFunc_S_Sint64__Sint64__impl_areItems_c1 N a0) fun y1 =>
 some (pGe y1 0)
def impl_areItems (N : Nat) (a0 : List (List (Int))) : Option (Bool) :=
 bindO (slices_ContainsFunc_S_Sint64__Sint64__impl_areItems_c1 N a0) fun y1 =>
 some (pNot y1)
def impl_size_SSint64 (N : Nat) (a0 : List (List (Int))) : Option (Int) :=
 some (pLen a0)
def spec_RingRight (N : Nat) (a0 : List (List (Int)) × Int × Unit) : Option (Bool) :=
 bindO (spec_l04Items N a0.1 10) fun y5 =>
 bindO (
 ifB y5 (
 some (pGe a0.2.1 0)) (
 some false)) fun y6 =>
 bindO (
 ifB y6 (
 bindO (
 ifB (pLt a0.2.1 (pLen a0.1)) (
 some true) (
 bindO (
 ifB (pEq a0.2.1 0) (
 some (pEq (pLen a0.1) 0)) (
 some false)) fun y9 =>
 some y9)) fun y8 =>
 some y8) (
 some false)) fun y7 =>
 some y7
end Go.AE.F
end
