/- Functions as they are printed out of the program: plain Lean, nothing is claimed here. -/
import Derived.Test.YtkknmokglbhheaaGreatLMachineF5
noncomputable section
namespace Go.AE.F
open Go.AE
def zCW (N:Nat) (a0:List (Int)×Int×Int×Unit) (a1:Int) (a2:Int) (a3:List (Int)):Option ((List Int×Int×Int×Unit)×List Int×Int×Unit) :=
 ifB (pLt a1 0) (
 some (([],(0,(0,()))),([],(8,())))) (
 ifB (pGt a1 a2) (
 some (([],(0,(0,()))),([],(8,())))) (
 bindO (zAR N a0.1) fun y10 =>
 ifB (pGt a2 y10) (
 some (([],(0,(0,()))),([],(8,())))) (
 bindO (zAR N a3) fun y11 =>
 bindO (zAR N a0.1) fun y12 =>
 ifB (pGt (pAdd .i64 y12 (pSub .i64 y11 (pSub .i64 a2 a1))) 300) (
 some (([],(0,(0,()))),([],(5,())))) (
 ifB (pLe 0 0) (
 ifB (pLe 0 a1) (
 ifB (pLe a1 (pLen a0.1)) (
 ifB (pLe 0 a2) (
 ifB (pLe a2 (pLen a0.1)) (
 ifB (pLe (pLen a0.1) (pLen a0.1)) (
 bindO (zA2 N [(sub a0.1 0 a1),a3,(sub a0.1 a2 (pLen a0.1))]) fun y13 =>
 bindO (zCB N a0.2.1 a1 a2 (pSub .i64 y11 (pSub .i64 a2 a1))) fun y14 =>
 bindO (zCB N a0.2.2.1 a1 a2 (pSub .i64 y11 (pSub .i64 a2 a1))) fun y15 =>
 bindO (
 ifB (pEq a1 a2) (
 some (pEq a0.2.1 a1)) (
 some false)) fun y16 =>
 ifB y16 (
 bindO (zAR N a3) fun y17 =>
 ifB (pLe 0 a1) (
 ifB (pLe a1 a2) (
 ifB (pLe a2 (pLen a0.1)) (
 bindO (zAO N (sub a0.1 a1 a2)) fun y18 =>
 some ((y13,((pAdd .i64 a1 y17),(y15,()))),(y18,(0,())))) (
 none)) (
 none)) (
 none)) (
 ifB (pLe 0 a1) (
 ifB (pLe a1 a2) (
 ifB (pLe a2 (pLen a0.1)) (
 bindO (zAO N (sub a0.1 a1 a2)) fun y19 =>
 some ((y13,(y14,(y15,()))),(y19,(0,())))) (
 none)) (
 none)) (
 none))) (
 none)) (
 none)) (
 none)) (
 none)) (
 none)) (
 none)))))
def zCG (N:Nat) (a0:List (Int)×Int×Int×Unit):Option (List Int×Int×Int×Unit) :=
 bindO (zC9 N a0.1) fun y1 =>
 some (y1,a0.2)
def zBC (N:Nat) (a0:(List (Int×Int×ByteArray×Int×Unit))×List (ByteArray)×List (Int)×(List (Int)×Int×Int×Unit)×Int×Int×Int×Unit) (a1:Int):Option ((List (Int×Int×ByteArray×Int×Unit))×List ByteArray×List Int×(List Int×Int×Int×Unit)×Int×Int×Int×Unit) :=
 ifB (pEq a0.2.2.2.2.2.2.1 0) (
 some (a0.1,(a0.2.1,(a0.2.2.1,(a0.2.2.2.1,(a0.2.2.2.2.1,(a0.2.2.2.2.2.1,(a1,a0.2.2.2.2.2.2.2)))))))) (
 some a0)
def zAS.l2 {R:Type} (N:Nat) (d:((List (Int×Int×ByteArray×Int×Unit))×List ByteArray×List Int×(List Int×Int×Int×Unit)×Int×Int×Int×Unit)×ByteArray×Int×Unit) (kn:((List (Int×Int×ByteArray×Int×Unit))×List ByteArray×List Int×(List Int×Int×Int×Unit)×Int×Int×Int×Unit)×ByteArray×Int×Unit→Option R) (kx:(Unit) ⊕ (Int×Unit)→Option R):Option R :=
 let x10:=d.1;
 let x11:=d.2.1;
 let x12:=d.2.2.1;
 ifB (pLt x12 (pLen x10.2.1)) (
 bindO (idx x10.2.1 x12) fun y13 =>
 ifB (pSEq y13 x11) (
 kx (.inr (x12,()))) (
 kn (x10,x11,(pAdd .i64 x12 1),()))) (
 kx (.inl (())))
def zAS (N:Nat) (a0:(List (Int×Int×ByteArray×Int×Unit))×List (ByteArray)×List (Int)×(List (Int)×Int×Int×Unit)×Int×Int×Int×Unit) (a1:ByteArray):Option (Int) :=
 loopP (zAS.l2 N) N (a0,a1,0,()) (
 onSum (fun d =>
 some 0) (
 fun d =>
 let x14:=d.1;
 some x14))
def zCS (N:Nat) (a0:List (Int)×Int×Int×Unit) (a1:Int) (a2:Int):Option ((List Int×Int×Int×Unit)×List Int×Int×Unit) :=
 bindO (zBW N a0 a1 a2 []) fun y1 =>
 some y1
def zBF (N:Nat) (a0:(List (Int×Int×ByteArray×Int×Unit))×List (ByteArray)×List (Int)×(List (Int)×Int×Int×Unit)×Int×Int×Int×Unit) (a1:Int) (a2:Int) (a3:Int):Option ((List (Int×Int×ByteArray×Int×Unit))×List ByteArray×List Int×(List Int×Int×Int×Unit)×Int×Int×Int×Unit) :=
 ifB (pEq a1 5) (
 bindO (zC5 N a2) fun y8 =>
 ifB (pNot y8) (
 bindO (zBC N a0 8) fun y9 =>
 some y9) (
 bindO (zCM N a0.2.2.2.1 [a2]) fun y10 =>
 ifB (pNe y10.2.2.1 0) (
 bindO (zBC N a0 y10.2.2.1) fun y11 =>
 some y11) (
 some (a0.1,(a0.2.1,(a0.2.2.1,(y10.1,a0.2.2.2.2))))))) (
 ifB (pEq a1 6) (
 bindO (zCS N a0.2.2.2.1 a2 a3) fun y12 =>
 ifB (pNe y12.2.2.1 0) (
 bindO (zBC N a0 y12.2.2.1) fun y13 =>
 some y13) (
 some (a0.1,(a0.2.1,(a0.2.2.1,(y12.1,a0.2.2.2.2)))))) (
 bindO (
 ifB (pLt a2 0) (
 some true) (
 some (pGt a2 (pLen a0.2.2.2.1.1)))) fun y14 =>
 ifB y14 (
 bindO (zBC N a0 8) fun y15 =>
 some y15) (
 ifB (pEq a1 7) (
 some (a0.1,(a0.2.1,(a0.2.2.1,((a0.2.2.2.1.1,(a2,a0.2.2.2.1.2.2)),a0.2.2.2.2))))) (
 some (a0.1,(a0.2.1,(a0.2.2.1,((a0.2.2.2.1.1,(a0.2.2.2.1.2.1,(a2,a0.2.2.2.1.2.2.2))),a0.2.2.2.2))))))))
def zBM (N:Nat):Option (List ByteArray) :=
 some [(ByteArray.mk #[]),(ByteArray.mk #[108,101,102,116]),(ByteArray.mk #[114,105,103,104,116]),(ByteArray.mk #[119,111,114,100,45,98,97,99,107]),(ByteArray.mk #[119,111,114,100,45,110,101,120,116]),(ByteArray.mk #[108,105,110,101,45,115,116,97,114,116]),(ByteArray.mk #[108,105,110,101,45,101,110,100]),(ByteArray.mk #[117,112]),(ByteArray.mk #[100,111,119,110]),(ByteArray.mk #[102,105,114,115,116]),(ByteArray.mk #[108,97,115,116])]
def zAU.l3 {R:Type} (N:Nat) (d:ByteArray×Int×List ByteArray×Unit) (kn:ByteArray×Int×List ByteArray×Unit→Option R) (kx:(Unit) ⊕ (Int×Unit)→Option R):Option R :=
 let x15:=d.1;
 let x16:=d.2.1;
 let x17:=d.2.2.1;
 ifB (pLt x16 (pLen x17)) (
 bindO (idx x17 x16) fun y18 =>
 bindO (idx x17 x16) fun y19 =>
 ifB (pSEq y19 x15) (
 kx (.inr (x16,()))) (
 kn (x15,(pAdd .i64 x16 1),x17,()))) (
 kx (.inl (())))
def zAU (N:Nat) (a0:ByteArray):Option (Int) :=
 bindO (zBM N) fun y14 =>
 loopP (zAU.l3 N) N (a0,1,y14,()) (
 onSum (fun d =>
 some 0) (
 fun d =>
 let x20:=d.1;
 some x20))
def zCT (N:Nat) (a0:List (Int)×Int×Int×Unit) (a1:Int) (a2:Int) (a3:Int):Option (List Int×Int×Int×Unit) :=
 bindO (zCG N a0) fun y2 =>
 bindO (zBH N a0 a1 a2 a3) fun y3 =>
 ifB (pGe y3 0) (
 some (y2.1,(y3,y2.2.2))) (
 some y2)
def zDE (N:Nat) (a0:Int) (a1:Int) (a2:Int):Option (Int×Int) :=
 ifB (pEq a0 18) (
 bindO (
 ifB (pNe a1 0) (
 some true) (
 some (pNe a2 0))) fun y16 =>
 ifB y16 (
 bindO (
 ifB (pLt 1 (-1000000000)) (
 some true) (
 some (pGt 1 1000000000))) fun y17 =>
 ifB y17 (
 some (0,8)) (
 some (1,0))) (
 bindO (
 ifB (pLt 0 (-1000000000)) (
 some true) (
 some (pGt 0 1000000000))) fun y18 =>
 ifB y18 (
 some (0,8)) (
 some (0,0)))) (
 ifB (pEq a0 19) (
 bindO (
 ifB (pNe a1 0) (
 some (pNe a2 0)) (
 some false)) fun y19 =>
 ifB y19 (
 bindO (
 ifB (pLt 1 (-1000000000)) (
 some true) (
 some (pGt 1 1000000000))) fun y20 =>
 ifB y20 (
 some (0,8)) (
 some (1,0))) (
 bindO (
 ifB (pLt 0 (-1000000000)) (
 some true) (
 some (pGt 0 1000000000))) fun y21 =>
 ifB y21 (
 some (0,8)) (
 some (0,0)))) (
 ifB (pEq a0 20) (
 ifB (pLt a1 a2) (
 bindO (
 ifB (pLt 1 (-1000000000)) (
 some true) (
 some (pGt 1 1000000000))) fun y22 =>
 ifB y22 (
 some (0,8)) (
 some (1,0))) (
 bindO (
 ifB (pLt 0 (-1000000000)) (
 some true) (
 some (pGt 0 1000000000))) fun y23 =>
 ifB y23 (
 some (0,8)) (
 some (0,0)))) (
 ifB (pEq a0 21) (
 ifB (pEq a1 a2) (
 bindO (
 ifB (pLt 1 (-1000000000)) (
 some true) (
 some (pGt 1 1000000000))) fun y24 =>
 ifB y24 (
 some (0,8)) (
 some (1,0))) (
 bindO (
 ifB (pLt 0 (-1000000000)) (
 some true) (
 some (pGt 0 1000000000))) fun y25 =>
 ifB y25 (
 some (0,8)) (
 some (0,0)))) (
 ifB (pEq a0 22) (
 ifB (pGt a1 a2) (
 bindO (
 ifB (pLt 1 (-1000000000)) (
 some true) (
 some (pGt 1 1000000000))) fun y26 =>
 ifB y26 (
 some (0,8)) (
 some (1,0))) (
 bindO (
 ifB (pLt 0 (-1000000000)) (
 some true) (
 some (pGt 0 1000000000))) fun y27 =>
 ifB y27 (
 some (0,8)) (
 some (0,0)))) (
 ifB (pEq a0 23) (
 bindO (
 ifB (pLt (pAdd .i64 a1 a2) (-1000000000)) (
 some true) (
 some (pGt (pAdd .i64 a1 a2) 1000000000))) fun y28 =>
 ifB y28 (
 some (0,8)) (
 some ((pAdd .i64 a1 a2),0))) (
 ifB (pEq a0 24) (
 bindO (
 ifB (pLt (pSub .i64 a1 a2) (-1000000000)) (
 some true) (
 some (pGt (pSub .i64 a1 a2) 1000000000))) fun y29 =>
 ifB y29 (
 some (0,8)) (
 some ((pSub .i64 a1 a2),0))) (
 ifB (pEq a0 25) (
 bindO (
 ifB (pLt (pMul .i64 a1 a2) (-1000000000)) (
 some true) (
 some (pGt (pMul .i64 a1 a2) 1000000000))) fun y30 =>
 ifB y30 (
 some (0,8)) (
 some ((pMul .i64 a1 a2),0))) (
 ifB (pEq a2 0) (
 some (0,8)) (
 ifB (pEq a2 0) (
 none) (
 bindO (
 ifB (pLt (pQuo .i64 a1 a2) (-1000000000)) (
 some true) (
 some (pGt (pQuo .i64 a1 a2) 1000000000))) fun y31 =>
 ifB y31 (
 some (0,8)) (
 some ((pQuo .i64 a1 a2),0))))))))))))
def zBS (N:Nat) (a0:(List (Int×Int×ByteArray×Int×Unit))×List (ByteArray)×List (Int)×(List (Int)×Int×Int×Unit)×Int×Int×Int×Unit) (a1:Int×Int×ByteArray×Int×Unit) (a2:Int) (a3:Int):Option (Int×(List (Int×Int×ByteArray×Int×Unit))×List ByteArray×List Int×(List Int×Int×Int×Unit)×Int×Int×Int×Unit) :=
 ifB (pEq a1.1 2) (
 bindO (zAS N a0 a1.2.2.1) fun y17 =>
 bindO (idx a0.2.2.1 y17) fun y18 =>
 bindO (idx a0.2.2.1 y17) fun y19 =>
 some (0,(a0.1,(a0.2.1,((pSet a0.2.2.1 y17 a2),a0.2.2.2))))) (
 ifB (pEq a1.1 5) (
 bindO (zBF N a0 a1.1 a2 a3) fun y20 =>
 some (0,y20)) (
 ifB (pEq a1.1 6) (
 bindO (zBF N a0 a1.1 a2 a3) fun y21 =>
 some (0,y21)) (
 ifB (pEq a1.1 7) (
 bindO (zBF N a0 a1.1 a2 a3) fun y22 =>
 some (0,y22)) (
 ifB (pEq a1.1 8) (
 bindO (zBF N a0 a1.1 a2 a3) fun y23 =>
 some (0,y23)) (
 ifB (pEq a1.1 9) (
 some (0,(a0.1,(a0.2.1,(a0.2.2.1,(a0.2.2.2.1,(a0.2.2.2.2.1,((pAdd .i64 a0.2.2.2.2.2.1 1),a0.2.2.2.2.2.2)))))))) (
 ifB (pEq a1.1 10) (
 bindO (zAU N a1.2.2.1) fun y24 =>
 bindO (zCT N a0.2.2.2.1 y24 1 0) fun y25 =>
 some (0,(a0.1,(a0.2.1,(a0.2.2.1,(y25,a0.2.2.2.2)))))) (
 ifB (pEq a1.1 11) (
 some (a1.2.1,a0)) (
 ifB (pEq a1.1 12) (
 bindO (zAS N a0 a1.2.2.1) fun y26 =>
 bindO (idx a0.2.2.1 y26) fun y27 =>
 bindO (idx a0.2.2.1 y26) fun y28 =>
 some (y28,a0)) (
 ifB (pEq a1.1 13) (
 some (a0.2.2.2.1.2.1,a0)) (
 ifB (pEq a1.1 14) (
 some ((pLen a0.2.2.2.1.1),a0)) (
 ifB (pEq a1.1 15) (
 some (a0.2.2.2.1.2.2.1,a0)) (
 ifB (pEq a1.1 16) (
 bindO (
 ifB (pLt a2 0) (
 some true) (
 some (pGe a2 (pLen a0.2.2.2.1.1)))) fun y29 =>
 ifB y29 (
 bindO (zBC N a0 8) fun y30 =>
 some (0,y30)) (
 bindO (idx a0.2.2.2.1.1 a2) fun y31 =>
 some (y31,a0))) (
 ifB (pEq a1.1 17) (
 ifB (pEq a2 0) (
 some (1,a0)) (
 some (0,a0))) (
 bindO (zDE N a1.1 a2 a3) fun y32 =>
 ifB (pNe y32.2 0) (
 bindO (zBC N a0 y32.2) fun y33 =>
 some (y32.1,y33)) (
 some (y32.1,a0))))))))))))))))
def zB6 (N:Nat) (a0:((List (Int)×Int×Int×Unit)×Int×Int×Int×Unit)×List (Int)×(Int×Int×Int×Int×Int×Int×Int×Int×Unit×Unit)×Int×Unit):Option (Int×((List Int×Int×Int×Unit)×Int×Int×Int×Unit)×List Int×(Int×Int×Int×Int×Int×Int×Int×Int×Unit×Unit)×Int×Unit) :=
 bindO (idx a0.2.1 (pSub .i64 (pLen a0.2.1) 1)) fun y2 =>
 bindO (idx a0.2.1 (pSub .i64 (pLen a0.2.1) 1)) fun y3 =>
 ifB (pLe 0 0) (
 ifB (pLe 0 (pSub .i64 (pLen a0.2.1) 1)) (
 ifB (pLe (pSub .i64 (pLen a0.2.1) 1) (pLen a0.2.1)) (
 some (y3,(a0.1,((sub a0.2.1 0 (pSub .i64 (pLen a0.2.1) 1)),a0.2.2)))) (
 none)) (
 none)) (
 none)
def zC3 (N:Nat) (a0:(List (Int)×Int×Int×Unit)×Int×Int×Int×Unit):Option (Bool×(List Int×Int×Int×Unit)×Int×Int×Int×Unit) :=
 ifB (pEq a0.2.1 0) (
 some (false,(a0.1,(a0.2.1,(a0.2.2.1,(6,a0.2.2.2.2)))))) (
 some (true,(a0.1,((pSub .i64 a0.2.1 1),a0.2.2))))
def zAD (N:Nat) (a0:((List (Int)×Int×Int×Unit)×Int×Int×Int×Unit)×List (Int)×(Int×Int×Int×Int×Int×Int×Int×Int×Unit×Unit)×Int×Unit) (a1:Int):Option (((List Int×Int×Int×Unit)×Int×Int×Int×Unit)×List Int×(Int×Int×Int×Int×Int×Int×Int×Int×Unit×Unit)×Int×Unit) :=
 ifB (pFit a0.2.1 [a1]) (
 some (a0.1,((pApp a0.2.1 [a1]),a0.2.2))) (
 none)
end Go.AE.F
end
