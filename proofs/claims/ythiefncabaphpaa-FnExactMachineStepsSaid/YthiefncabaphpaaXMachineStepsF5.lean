/- Functions as they are printed out of the program: plain Lean, nothing is claimed here. -/
import Derived.Test.YthiefncabaphpaaXMachineStepsF4
noncomputable section
namespace Go.AE.F
open Go.AE
def impl_Buf_step (N : Nat) (a0 : List (Int) × Int × Int × Unit) (a1 : Int) (a2 : Int) (a3 : Int) : Option (Int) :=
 bindO (impl_size_Sint64 N a0.1) fun y28 =>
 ifB (pEq a2 1) (
 some (pMax (pSub .i64 a1 1) 0)) (
 ifB (pEq a2 2) (
 some (pMin (pAdd .i64 a1 1) y28)) (
 ifB (pEq a2 3) (
 bindO (impl_Buf_wordBack N a0 a1) fun y29 =>
 some y29) (
 ifB (pEq a2 4) (
 bindO (impl_Buf_wordNext N a0 a1) fun y30 =>
 some y30) (
 ifB (pEq a2 5) (
 bindO (impl_Buf_start N a0 a1) fun y31 =>
 some y31) (
 ifB (pEq a2 6) (
 bindO (impl_Buf_end N a0 a1) fun y32 =>
 some y32) (
 ifB (pEq a2 7) (
 bindO (impl_Buf_spot N a0 a1) fun y33 =>
 bindO (impl_Buf_spot N a0 a0.2.1) fun y34 =>
 ifB (pEq a2 8) (
 bindO (impl_Buf_place N a0 ((pAdd .i64 (pSub .i64 y33.1 1) 2), (y34.2.1, ()))) fun y35 =>
 some y35) (
 bindO (impl_Buf_place N a0 ((pSub .i64 y33.1 1), (y34.2.1, ()))) fun y36 =>
 some y36)) (
 ifB (pEq a2 8) (
 bindO (impl_Buf_spot N a0 a1) fun y37 =>
 bindO (impl_Buf_spot N a0 a0.2.1) fun y38 =>
 ifB (pEq a2 8) (
 bindO (impl_Buf_place N a0 ((pAdd .i64 (pSub .i64 y37.1 1) 2), (y38.2.1, ()))) fun y39 =>
 some y39) (
 bindO (impl_Buf_place N a0 ((pSub .i64 y37.1 1), (y38.2.1, ()))) fun y40 =>
 some y40)) (
 ifB (pEq a2 9) (
 some 0) (
 ifB (pEq a2 10) (
 some y28) (
 loopP (impl_Buf_step.l26 N) N (a0, a1, a3, y28, (pAdd .i64 a1 1), ()) (
 onSum (fun d =>
 let x47 := d.1;
 some x47) (
 fun d =>
 let x48 := d.1;
 some x48))))))))))))
def impl_Buf_motion.l3 {R : Type} (N : Nat) (d : (List Int × Int × Int × Unit) × Int × Int × Int × Int × Int × Unit) (kn : (List Int × Int × Int × Unit) × Int × Int × Int × Int × Int × Unit → Option R) (kx : Int × Unit → Option R) : Option R :=
 let x16 := d.1;
 let x17 := d.2.1;
 let x18 := d.2.2.1;
 let x19 := d.2.2.2.1;
 let x20 := d.2.2.2.2.1;
 let x21 := d.2.2.2.2.2.1;
 ifB (pLt x21 x20) (
 bindO (impl_Buf_step N x16 x19 x17 x18) fun y22 =>
 ifB (pEq y22 x19) (
 kx (x19, ())) (
 kn (x16, x17, x18, y22, x20, (pAdd .i64 x21 1), ()))) (
 kx (x19, ()))
def impl_Buf_motion (N : Nat) (a0 : List (Int) × Int × Int × Unit) (a1 : Int) (a2 : Int) (a3 : Int) : Option (Int) :=
 loopP (impl_Buf_motion.l3 N) N (a0, a1, a3, a0.2.1, a2, 0, ()) (
 fun d =>
 let x23 := d.1;
 some x23)
def impl_Motion (N : Nat) (a0 : List (Int) × Int × Int × Unit) (a1 : Int) (a2 : Int) (a3 : Int) : Option (Int) :=
 bindO (impl_BufRight N a0) fun y6 =>
 bindO (
 ifB (pNot y6) (
 some true) (
 bindO (impl_within N a1 1 11) fun y8 =>
 some (pNot y8))) fun y7 =>
 bindO (
 ifB y7 (
 some true) (
 bindO (impl_within N a2 0 1000) fun y10 =>
 some (pNot y10))) fun y9 =>
 ifB y9 (
 some (-1)) (
 bindO (impl_Buf_motion N a0 a1 a2 a3) fun y11 =>
 some y11)
def impl_ownBuf (N : Nat) (a0 : List (Int) × Int × Int × Unit) : Option (List Int × Int × Int × Unit) :=
 bindO (slices_Clone_Sint64_int64 N a0.1) fun y1 =>
 some (y1, (a0.2.1, (a0.2.2.1, ())))
def impl_BufMove (N : Nat) (a0 : List (Int) × Int × Int × Unit) (a1 : Int) (a2 : Int) (a3 : Int) : Option (List Int × Int × Int × Unit) :=
 bindO (impl_ownBuf N a0) fun y2 =>
 bindO (impl_Motion N a0 a1 a2 a3) fun y3 =>
 ifB (pGe y3 0) (
 some (y2.1, (y3, y2.2.2))) (
 some y2)
def spec_l02Moved (N : Nat) (a0 : Int) (a1 : Int) (a2 : Int) (a3 : Int) : Option (Int) :=
 ifB (pLe a0 a1) (
 some a0) (
 ifB (pLt a0 a2) (
 some a1) (
 some (pAdd .i64 a0 a3)))
def spec_BufReplace (N : Nat) (a0 : List (Int) × Int × Int × Unit) (a1 : Int) (a2 : Int) (a3 : List (Int)) : Option ((List Int × Int × Int × Unit) × List Int × Int × Unit) :=
 ifB (pGt (pLen a3) 400) (
 some (([], (0, (0, ()))), ([], (2, ())))) (
 bindO (spec_BufRight N a0) fun y11 =>
 bindO (
 ifB (pNot y11) (
 some true) (
 bindO (spec_PointsRight N a3) fun y13 =>
 some (pNot y13))) fun y12 =>
 ifB y12 (
 some (([], (0, (0, ()))), ([], (1, ())))) (
 bindO (
 ifB (pLt a1 0) (
 some true) (
 some (pGt a1 a2))) fun y14 =>
 bindO (
 ifB y14 (
 some true) (
 some (pGt a2 (pLen a0.1)))) fun y15 =>
 ifB y15 (
 some (([], (0, (0, ()))), ([], (8, ())))) (
 ifB (pGt (pAdd .i64 (pSub .i64 (pLen a0.1) (pSub .i64 a2 a1)) (pLen a3)) 300) (
 some (([], (0, (0, ()))), ([], (5, ())))) (
 bindO (spec_l02Moved N a0.2.1 a1 a2 (pSub .i64 (pLen a3) (pSub .i64 a2 a1))) fun y16 =>
 bindO (spec_l02Moved N a0.2.2.1 a1 a2 (pSub .i64 (pLen a3) (pSub .i64 a2 a1))) fun y17 =>
 ifB (pLe 0 0) (
 ifB (pLe 0 a1) (
 ifB (pLe a1 (pLen a0.1)) (
 ifB (pLe 0 a2) (
 ifB (pLe a2 (pLen a0.1)) (
 ifB (pLe (pLen a0.1) (pLen a0.1)) (
 bindO (spec_l01Copy N (sub a0.1 0 a1)) fun y18 =>
 ifB (pFit y18 a3) (
 ifB (pFit (pApp y18 a3) (sub a0.1 a2 (pLen a0.1))) (
 bindO (
 ifB (pEq a1 a2) (
 some (pEq a0.2.1 a1)) (
 some false)) fun y19 =>
 ifB y19 (
 ifB (pLe 0 a1) (
 ifB (pLe a1 a2) (
 ifB (pLe a2 (pLen a0.1)) (
 bindO (spec_l01Copy N (sub a0.1 a1 a2)) fun y20 =>
 some (((pApp (pApp y18 a3) (sub a0.1 a2 (pLen a0.1))), ((pAdd .i64 a1 (pLen a3)), (y17, ()))), (y20, (0, ())))) (
 none)) (
 none)) (
 none)) (
 ifB (pLe 0 a1) (
 ifB (pLe a1 a2) (
 ifB (pLe a2 (pLen a0.1)) (
 bindO (spec_l01Copy N (sub a0.1 a1 a2)) fun y21 =>
 some (((pApp (pApp y18 a3) (sub a0.1 a2 (pLen a0.1))), (y16, (y17, ()))), (y21, (0, ())))) (
 none)) (
 none)) (
 none))) (
 none)) (
 none)) (
 none)) (
 none)) (
 none)) (
 none)) (
 none)) (
 none)))))
def spec_BufInsert (N : Nat) (a0 : List (Int) × Int × Int × Unit) (a1 : List (Int)) : Option ((List Int × Int × Int × Unit) × List Int × Int × Unit) :=
 bindO (spec_BufReplace N a0 a0.2.1 a0.2.1 a1) fun y1 =>
 some y1
def slices_Grow_Sint64_int64 (N : Nat) (a0 : List (Int)) (a1 : Int) : Option (List Int) :=
 ifB (pLt a1 0) (
 none) (
 ifB (pGt (pSub .i64 a1 (pSub .i64 0 (pLen ([] : List Int)))) 0) (
 ifB (pEq 0 0) (
 ifB (pEq 0 0) (
 ifB (pLe 0 (pSub .i64 a1 (pSub .i64 0 (pLen ([] : List Int))))) (
 ifB (pLe (pSub .i64 a1 (pSub .i64 0 (pLen ([] : List Int)))) 68719476736) (
 ifB (pLe 0 0) (
 ifB (pLe 0 (pLen ([] : List Int))) (
 ifB (pLe (pLen ([] : List Int)) (pLen (pRepl (pSub .i64 a1 (pSub .i64 0 (pLen ([] : List Int)))) (0 : Int)))) (
 some (sub (pRepl (pSub .i64 a1 (pSub .i64 0 (pLen ([] : List Int)))) (0 : Int)) 0 (pLen ([] : List Int)))) (
 none)) (
 none)) (
 none)) (
 none)) (
 none)) (
 none)) (
 none)) (
 some []))
def slices_Concat_Sint64_int64.l3 {R : Type} (N : Nat) (d : List (List Int) × Int × List (List Int) × Int × Int × Unit) (kn : List (List Int) × Int × List (List Int) × Int × Int × Unit → Option R) (kx : List (List Int) × Int × Unit → Option R) : Option R :=
 let x28 := d.1;
 let x29 := d.2.1;
 let x30 := d.2.2.1;
 let x31 := d.2.2.2.1;
 let x32 := d.2.2.2.2.1;
 ifB (pLt x32 x31) (
 bindO (idx x30 x32) fun y33 =>
 ifB (pLt (pAdd .i64 x29 (pLen y33)) 0) (
 none) (
 kn (x28, (pAdd .i64 x29 (pLen y33)), x30, x31, (pAdd .i64 x32 1), ()))) (
 kx (x28, x29, ()))
def slices_Concat_Sint64_int64.l11 {R : Type} (N : Nat) (d : List (List Int) × Int × Int × List Int × Unit) (kn : List (List Int) × Int × Int × List Int × Unit → Option R) (kx : List Int × Unit → Option R) : Option R :=
 let x37 := d.1;
 let x38 := d.2.1;
 let x39 := d.2.2.1;
 let x40 := d.2.2.2.1;
 ifB (pLt x39 x38) (
 bindO (idx x37 x39) fun y41 =>
 ifB (pFit x40 y41) (
 kn (x37, x38, (pAdd .i64 x39 1), (pApp x40 y41), ())) (
 none)) (
 kx (x40, ()))
def slices_Concat_Sint64_int64 (N : Nat) (a0 : List (List (Int))) : Option (List Int) :=
 loopP (slices_Concat_Sint64_int64.l3 N) N (a0, 0, a0, (pLen a0), 0, ()) (
 fun d =>
 let x34 := d.1;
 let x35 := d.2.1;
 bindO (slices_Grow_Sint64_int64 N [] x35) fun y36 =>
 loopP (slices_Concat_Sint64_int64.l11 N) N (x34, (pLen x34), 0, y36, ()) (
 fun d =>
 let x42 := d.1;
 some x42))
def impl_replace_c1 (N : Nat) (a0 : Int) (a1 : Int) (a2 : Int) (a3 : Int) : Option (Int) :=
 ifB (pLe a0 a1) (
 some a0) (
 ifB (pLt a0 a2) (
 some a1) (
 some (pAdd .i64 a0 a3)))
def impl_replace (N : Nat) (a0 : List (Int) × Int × Int × Unit) (a1 : Int) (a2 : Int) (a3 : List (Int)) : Option ((List Int × Int × Int × Unit) × List Int × Int × Unit) :=
 ifB (pLt a1 0) (
 some (([], (0, (0, ()))), ([], (8, ())))) (
 ifB (pGt a1 a2) (
 some (([], (0, (0, ()))), ([], (8, ())))) (
 bindO (impl_size_Sint64 N a0.1) fun y10 =>
 ifB (pGt a2 y10) (
 some (([], (0, (0, ()))), ([], (8, ())))) (
 bindO (impl_size_Sint64 N a3) fun y11 =>
 bindO (impl_size_Sint64 N a0.1) fun y12 =>
 ifB (pGt (pAdd .i64 y12 (pSub .i64 y11 (pSub .i64 a2 a1))) 300) (
 some (([], (0, (0, ()))), ([], (5, ())))) (
 ifB (pLe 0 0) (
 ifB (pLe 0 a1) (
 ifB (pLe a1 (pLen a0.1)) (
 ifB (pLe 0 a2) (
 ifB (pLe a2 (pLen a0.1)) (
 ifB (pLe (pLen a0.1) (pLen a0.1)) (
 bindO (slices_Concat_Sint64_int64 N [(sub a0.1 0 a1), a3, (sub a0.1 a2 (pLen a0.1))]) fun y13 =>
 bindO (impl_replace_c1 N a0.2.1 a1 a2 (pSub .i64 y11 (pSub .i64 a2 a1))) fun y14 =>
 bindO (impl_replace_c1 N a0.2.2.1 a1 a2 (pSub .i64 y11 (pSub .i64 a2 a1))) fun y15 =>
 bindO (
 ifB (pEq a1 a2) (
 some (pEq a0.2.1 a1)) (
 some false)) fun y16 =>
 ifB y16 (
 bindO (impl_size_Sint64 N a3) fun y17 =>
 ifB (pLe 0 a1) (
 ifB (pLe a1 a2) (
 ifB (pLe a2 (pLen a0.1)) (
 bindO (slices_Clone_Sint64_int64 N (sub a0.1 a1 a2)) fun y18 =>
 some ((y13, ((pAdd .i64 a1 y17), (y15, ()))), (y18, (0, ())))) (
 none)) (
 none)) (
 none)) (
 ifB (pLe 0 a1) (
 ifB (pLe a1 a2) (
 ifB (pLe a2 (pLen a0.1)) (
 bindO (slices_Clone_Sint64_int64 N (sub a0.1 a1 a2)) fun y19 =>
 some ((y13, (y14, (y15, ()))), (y19, (0, ())))) (
 none)) (
 none)) (
 none))) (
 none)) (
 none)) (
 none)) (
 none)) (
 none)) (
 none)))))
def spec_l02Copy (N : Nat) (a0 : List (Int) × Int × Int × Unit) : Option (List Int × Int × Int × Unit) :=
 bindO (spec_l01Copy N a0.1) fun y1 =>
 some (y1, a0.2)
def spec_l12Run_fail (N : Nat) (a0 : (List (Int × Int × ByteArray × Int × Unit)) × List (ByteArray) × List (Int) × (List (Int) × Int × Int × Unit) × Int × Int × Int × Unit) (a1 : Int) : Option ((List (Int × Int × ByteArray × Int × Unit)) × List ByteArray × List Int × (List Int × Int × Int × Unit) × Int × Int × Int × Unit) :=
 ifB (pEq a0.2.2.2.2.2.2.1 0) (
 some (a0.1, (a0.2.1, (a0.2.2.1, (a0.2.2.2.1, (a0.2.2.2.2.1, (a0.2.2.2.2.2.1, (a1, a0.2.2.2.2.2.2.2)))))))) (
 some a0)
def spec_l12Run_slot.l2 {R : Type} (N : Nat) (d : ((List (Int × Int × ByteArray × Int × Unit)) × List ByteArray × List Int × (List Int × Int × Int × Unit) × Int × Int × Int × Unit) × ByteArray × Int × Unit) (kn : ((List (Int × Int × ByteArray × Int × Unit)) × List ByteArray × List Int × (List Int × Int × Int × Unit) × Int × Int × Int × Unit) × ByteArray × Int × Unit → Option R) (kx : (Unit) ⊕ (Int × Unit) → Option R) : Option R :=
 let x10 := d.1;
 let x11 := d.2.1;
 let x12 := d.2.2.1;
 ifB (pLt x12 (pLen x10.2.1)) (
 bindO (idx x10.2.1 x12) fun y13 =>
 ifB (pSEq y13 x11) (
 kx (.inr (x12, ()))) (
 kn (x10, x11, (pAdd .i64 x12 1), ()))) (
 kx (.inl (())))
def spec_l12Run_slot (N : Nat) (a0 : (List (Int × Int × ByteArray × Int × Unit)) × List (ByteArray) × List (Int) × (List (Int) × Int × Int × Unit) × Int × Int × Int × Unit) (a1 : ByteArray) : Option (Int) :=
 loopP (spec_l12Run_slot.l2 N) N (a0, a1, 0, ()) (
 onSum (fun d =>
 some 0) (
 fun d =>
 let x14 := d.1;
 some x14))
def spec_BufDelete (N : Nat) (a0 : List (Int) × Int × Int × Unit) (a1 : Int) (a2 : Int) : Option ((List Int × Int × Int × Unit) × List Int × Int × Unit) :=
 bindO (spec_BufReplace N a0 a1 a2 []) fun y1 =>
 some y1
def spec_l12Run_act (N : Nat) (a0 : (List (Int × Int × ByteArray × Int × Unit)) × List (ByteArray) × List (Int) × (List (Int) × Int × Int × Unit) × Int × Int × Int × Unit) (a1 : Int) (a2 : Int) (a3 : Int) : Option ((List (Int × Int × ByteArray × Int × Unit)) × List ByteArray × List Int × (List Int × Int × Int × Unit) × Int × Int × Int × Unit) :=
 ifB (pEq a1 5) (
 bindO (spec_l01Point N a2) fun y8 =>
 ifB (pNot y8) (
 bindO (spec_l12Run_fail N a0 8) fun y9 =>
 some y9) (
 bindO (spec_BufInsert N a0.2.2.2.1 [a2]) fun y10 =>
 ifB (pNe y10.2.2.1 0) (
 bindO (spec_l12Run_fail N a0 y10.2.2.1) fun y11 =>
 some y11) (
 some (a0.1, (a0.2.1, (a0.2.2.1, (y10.1, a0.2.2.2.2))))))) (
 ifB (pEq a1 6) (
 bindO (spec_BufDelete N a0.2.2.2.1 a2 a3) fun y12 =>
 ifB (pNe y12.2.2.1 0) (
 bindO (spec_l12Run_fail N a0 y12.2.2.1) fun y13 =>
 some y13) (
 some (a0.1, (a0.2.1, (a0.2.2.1, (y12.1, a0.2.2.2.2)))))) (
 bindO (
 ifB (pLt a2 0) (
 some true) (
 some (pGt a2 (pLen a0.2.2.2.1.1)))) fun y14 =>
 ifB y14 (
 bindO (spec_l12Run_fail N a0 8) fun y15 =>
 some y15) (
 ifB (pEq a1 7) (
 some (a0.1, (a0.2.1, (a0.2.2.1, ((a0.2.2.2.1.1, (a2, a0.2.2.2.1.2.2)), a0.2.2.2.2))))) (
 some (a0.1, (a0.2.1, (a0.2.2.1, ((a0.2.2.2.1.1, (a0.2.2.2.1.2.1, (a2, a0.2.2.2.1.2.2.2))), a0.2.2.2.2))))))))
def spec_l11Motions (N : Nat) : Option (List ByteArray) :=
 some [(ByteArray.mk #[]), (ByteArray.mk #[108, 101, 102, 116]), (ByteArray.mk #[114, 105, 103, 104, 116]), (ByteArray.mk #[119, 111, 114, 100, 45, 98, 97, 99, 107]), (ByteArray.mk #[119, 111, 114, 100, 45, 110, 101, 120, 116]), (ByteArray.mk #[108, 105, 110, 101, 45, 115, 116, 97, 114, 116]), (ByteArray.mk #[108, 105, 110, 101, 45, 101, 110, 100]), (ByteArray.mk #[117, 112]), (ByteArray.mk #[100, 111, 119, 110]), (ByteArray.mk #[102, 105, 114, 115, 116]), (ByteArray.mk #[108, 97, 115, 116])]
def spec_l11Motion.l3 {R : Type} (N : Nat) (d : ByteArray × Int × List ByteArray × Unit) (kn : ByteArray × Int × List ByteArray × Unit → Option R) (kx : (Unit) ⊕ (Int × Unit) → Option R) : Option R :=
 let x15 := d.1;
 let x16 := d.2.1;
 let x17 := d.2.2.1;
 ifB (pLt x16 (pLen x17)) (
 bindO (idx x17 x16) fun y18 =>
 bindO (idx x17 x16) fun y19 =>
 ifB (pSEq y19 x15) (
 kx (.inr (x16, ()))) (
 kn (x15, (pAdd .i64 x16 1), x17, ()))) (
 kx (.inl (())))
end Go.AE.F
end
