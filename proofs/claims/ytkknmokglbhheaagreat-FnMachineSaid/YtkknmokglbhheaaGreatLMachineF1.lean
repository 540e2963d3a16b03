/- Functions as they are printed out of the program: plain Lean, nothing is claimed here. -/
import Derived.Test.YtkknmokglbhheaaGreatA5
noncomputable section
namespace Go.AE.F
open Go.AE
def zC5 (N:Nat) (a0:Int):Option (Bool) :=
 bindO (
 ifB (pGe a0 0) (
 some (pLe a0 1114111)) (
 some false)) fun y3 =>
 bindO (
 ifB y3 (
 bindO (
 ifB (pGe a0 55296) (
 some (pLe a0 57343)) (
 some false)) fun y5 =>
 some (pNot y5)) (
 some false)) fun y4 =>
 some y4
def zCY (N:Nat) (a0:Int):Option (Int) :=
 bindO (zC5 N a0) fun y10 =>
 ifB (pNot y10) (
 some 0) (
 bindO (
 ifB (pEq a0 32) (
 some true) (
 some (pEq a0 9))) fun y11 =>
 bindO (
 ifB y11 (
 some true) (
 some (pEq a0 10))) fun y12 =>
 ifB y12 (
 some 1) (
 bindO (
 ifB (pGe a0 97) (
 some (pLe a0 122)) (
 some false)) fun y13 =>
 bindO (
 ifB y13 (
 some true) (
 bindO (
 ifB (pGe a0 65) (
 some (pLe a0 90)) (
 some false)) fun y15 =>
 some y15)) fun y14 =>
 bindO (
 ifB y14 (
 some true) (
 bindO (
 ifB (pGe a0 48) (
 some (pLe a0 57)) (
 some false)) fun y17 =>
 some y17)) fun y16 =>
 bindO (
 ifB y16 (
 some true) (
 some (pEq a0 95))) fun y18 =>
 bindO (
 ifB y18 (
 some true) (
 some (pGe a0 128))) fun y19 =>
 ifB y19 (
 some 2) (
 some 3)))
def zAR (N:Nat) (a0:List (Int)):Option (Int) :=
 some (pLen a0)
def zB5 (N:Nat) (a0:Int) (a1:Int) (a2:Int):Option (Bool) :=
 bindO (
 ifB (pLe a1 a0) (
 some (pLe a0 a2)) (
 some false)) fun y1 =>
 some y1
def zCH (N:Nat) (a0:Int):Option (Bool) :=
 bindO (zB5 N a0 0 1114111) fun y3 =>
 bindO (
 ifB y3 (
 bindO (zB5 N a0 55296 57343) fun y5 =>
 some (pNot y5)) (
 some false)) fun y4 =>
 some y4
def zD5 (N:Nat) (a0:Int):Option (Int) :=
 bindO (zCH N a0) fun y30 =>
 ifB (pNot y30) (
 some 0) (
 bindO (
 ifB (pEq a0 32) (
 some true) (
 some (pEq a0 9))) fun y31 =>
 bindO (
 ifB y31 (
 some true) (
 some (pEq a0 10))) fun y32 =>
 ifB y32 (
 some 1) (
 bindO (zB5 N a0 65 90) fun y33 =>
 bindO (
 ifB y33 (
 some true) (
 bindO (zB5 N a0 97 122) fun y35 =>
 some y35)) fun y34 =>
 bindO (
 ifB y34 (
 some true) (
 bindO (zB5 N a0 48 57) fun y37 =>
 some y37)) fun y36 =>
 bindO (
 ifB y36 (
 some true) (
 some (pEq a0 95))) fun y38 =>
 bindO (
 ifB y38 (
 some true) (
 some (pGe a0 128))) fun y39 =>
 ifB y39 (
 some 2) (
 some 3)))
def zAQ.l4 {R:Type} (N:Nat) (d:List Int×Int×Unit) (kn:List Int×Int×Unit→Option R) (kx:(Unit) ⊕ (Bool×Unit)→Option R):Option R :=
 let x31:=d.1;
 let x32:=d.2.1;
 ifB (pLt x32 (pLen x31)) (
 bindO (idx x31 x32) fun y35 =>
 bindO (zC5 N y35) fun y36 =>
 ifB (pNot y36) (
 kx (.inr (false,()))) (
 kn (x31,(pAdd .i64 x32 1),()))) (
 kx (.inl (())))
def zAQ (N:Nat) (a0:List (Int)):Option (Bool) :=
 ifB (pGt (pLen a0) 300) (
 some false) (
 loopP (zAQ.l4 N) N (a0,0,()) (
 onSum (fun d =>
 some true) (
 fun d =>
 let x37:=d.1;
 some x37)))
def zBN (N:Nat) (a0:List (Int)×Int×Int×Unit):Option (Bool) :=
 bindO (zAQ N a0.1) fun y5 =>
 bindO (
 ifB y5 (
 some (pGe a0.2.1 0)) (
 some false)) fun y6 =>
 bindO (
 ifB y6 (
 some (pLe a0.2.1 (pLen a0.1))) (
 some false)) fun y7 =>
 bindO (
 ifB y7 (
 some (pGe a0.2.2.1 0)) (
 some false)) fun y8 =>
 bindO (
 ifB y8 (
 some (pLe a0.2.2.1 (pLen a0.1))) (
 some false)) fun y9 =>
 some y9
def zC9 (N:Nat) (a0:List (Int)):Option (List Int) :=
 ifB (pFit [] a0) (
 some (pApp [] a0)) (
 none)
def zBT (N:Nat) (a0:Int):Option (Bool) :=
 bindO (zCH N a0) fun y1 =>
 some (pNot y1)
def zA1.l2 {R:Type} (N:Nat) (d:List Int×Int×Int×Unit) (kn:List Int×Int×Int×Unit→Option R) (kx:(Unit) ⊕ (Int×Unit)→Option R):Option R :=
 let x36:=d.1;
 let x37:=d.2.1;
 let x38:=d.2.2.1;
 ifB (pLt x38 x37) (
 bindO (idx x36 x38) fun y41 =>
 bindO (zBT N y41) fun y42 =>
 ifB y42 (
 kx (.inr (x38,()))) (
 kn (x36,x37,(pAdd .i64 x38 1),()))) (
 kx (.inl (())))
def zA1 (N:Nat) (a0:List (Int)):Option (Int) :=
 loopP (zA1.l2 N) N (a0,(pLen a0),0,()) (
 onSum (fun d =>
 some (-1)) (
 fun d =>
 let x43:=d.1;
 some x43))
def zAH (N:Nat) (a0:List (Int)):Option (Bool) :=
 bindO (zA1 N a0) fun y1 =>
 some (pGe y1 0)
def zC7 (N:Nat) (a0:List (Int)):Option (Bool) :=
 bindO (
 ifB (pLe (pLen a0) 300) (
 bindO (zAH N a0) fun y3 =>
 some (pNot y3)) (
 some false)) fun y2 =>
 some y2
def zBK (N:Nat) (a0:List (Int)×Int×Int×Unit) (a1:Int):Option (Bool) :=
 bindO (zAR N a0.1) fun y2 =>
 bindO (zB5 N a1 0 y2) fun y3 =>
 some y3
def zC6 (N:Nat) (a0:List (Int)×Int×Int×Unit):Option (Bool) :=
 bindO (zC7 N a0.1) fun y5 =>
 bindO (
 ifB y5 (
 bindO (zBK N a0 a0.2.1) fun y7 =>
 some y7) (
 some false)) fun y6 =>
 bindO (
 ifB y6 (
 bindO (zBK N a0 a0.2.2.1) fun y9 =>
 some y9) (
 some false)) fun y8 =>
 some y8
def zBZ (N:Nat) (a0:List (Int)×Int×Int×Unit) (a1:Int):Option (Bool) :=
 bindO (idx a0.1 a1) fun y2 =>
 bindO (zD5 N y2) fun y3 =>
 some (pEq y3 2)
def zAO.g {R:Type} (N:Nat) (a0:List (Int)) (k:List Int→Option R):Option R :=
 ifB (pEq (pLen a0) 0) (
 same (
 k []) (
 ifB (pFit [] a0) (
 k (pApp [] a0)) (
 none))) (
 ifB (pFit [] a0) (
 k (pApp [] a0)) (
 none))
def zAO (N:Nat) (a0:List (Int)):Option (List Int):=zAO.g N a0 some
def zB0.l3 {R:Type} (N:Nat) (d:List Int×Int×(List Int×Int×Int×Int×Unit)×Unit) (kn:List Int×Int×(List Int×Int×Int×Int×Unit)×Unit→Option R) (kx:List Int×(List Int×Int×Int×Int×Unit)×Unit→Option R):Option R :=
 let x13:=d.1;
 let x14:=d.2.1;
 let x15:=d.2.2.1;
 bindO (
 ifB (pLt x14 (pLen x13)) (
 some (pLt x14 64)) (
 some false)) fun y16 =>
 ifB y16 (
 bindO (idx x13 x14) fun y17 =>
 kn (x13,(pAdd .i64 x14 1),(x15.1,(x15.2.1,((pMul .u64 (pXor .u64 x15.2.2.1 (pConv .u64 y17)) 1099511628211),x15.2.2.2))),())) (
 kx (x13,x15,()))
def zB0 (N:Nat) (a0:List (Int)):Option (List Int×Int×Int×Int×Unit) :=
 loopP (zB0.l3 N) N (a0,0,(a0,(0,(88172645463325252,(0,())))),()) (
 fun d =>
 let x18:=d.1;
 let x19:=d.2.1;
 ifB (pEq 20 0) (
 none) (
 ifB (pGt (pQuo .i64 (pLen x18) 20) 12) (
 some (x19.1,(x19.2.1,(x19.2.2.1,(12,x19.2.2.2.2))))) (
 some (x19.1,(x19.2.1,(x19.2.2.1,((pQuo .i64 (pLen x18) 20),x19.2.2.2.2)))))))
def zA9 (N:Nat) (a0:List (Int)×Int×Int×Int×Unit) (a1:Int):Option (Int×List Int×Int×Int×Int×Unit) :=
 ifB (pLe a1 1) (
 some (0,a0)) (
 ifB (pLt a0.2.1 (pLen a0.1)) (
 bindO (idx a0.1 a0.2.1) fun y1 =>
 ifB (pLt 13 0) (
 none) (
 ifB (pLt 7 0) (
 none) (
 ifB (pLt 17 0) (
 none) (
 ifB (pLt 20 0) (
 none) (
 ifB (pEq (pConv .u64 a1) 0) (
 none) (
 some ((pConv .i64 (pRem (pAdd .u64 (pConv .u64 y1) (pShr .u64 (pXor .u64 (pXor .u64 (pXor .u64 a0.2.2.1 (pShl .u64 a0.2.2.1 13)) (pShr .u64 (pXor .u64 a0.2.2.1 (pShl .u64 a0.2.2.1 13)) 7)) (pShl .u64 (pXor .u64 (pXor .u64 a0.2.2.1 (pShl .u64 a0.2.2.1 13)) (pShr .u64 (pXor .u64 a0.2.2.1 (pShl .u64 a0.2.2.1 13)) 7)) 17)) 20)) (pConv .u64 a1))),(a0.1,((pAdd .i64 a0.2.1 1),((pXor .u64 (pXor .u64 (pXor .u64 a0.2.2.1 (pShl .u64 a0.2.2.1 13)) (pShr .u64 (pXor .u64 a0.2.2.1 (pShl .u64 a0.2.2.1 13)) 7)) (pShl .u64 (pXor .u64 (pXor .u64 a0.2.2.1 (pShl .u64 a0.2.2.1 13)) (pShr .u64 (pXor .u64 a0.2.2.1 (pShl .u64 a0.2.2.1 13)) 7)) 17)),a0.2.2.2)))))))))) (
 ifB (pLt 13 0) (
 none) (
 ifB (pLt 7 0) (
 none) (
 ifB (pLt 17 0) (
 none) (
 ifB (pLt 20 0) (
 none) (
 ifB (pEq (pConv .u64 a1) 0) (
 none) (
 some ((pConv .i64 (pRem (pAdd .u64 0 (pShr .u64 (pXor .u64 (pXor .u64 (pXor .u64 a0.2.2.1 (pShl .u64 a0.2.2.1 13)) (pShr .u64 (pXor .u64 a0.2.2.1 (pShl .u64 a0.2.2.1 13)) 7)) (pShl .u64 (pXor .u64 (pXor .u64 a0.2.2.1 (pShl .u64 a0.2.2.1 13)) (pShr .u64 (pXor .u64 a0.2.2.1 (pShl .u64 a0.2.2.1 13)) 7)) 17)) 20)) (pConv .u64 a1))),(a0.1,(a0.2.1,((pXor .u64 (pXor .u64 (pXor .u64 a0.2.2.1 (pShl .u64 a0.2.2.1 13)) (pShr .u64 (pXor .u64 a0.2.2.1 (pShl .u64 a0.2.2.1 13)) 7)) (pShl .u64 (pXor .u64 (pXor .u64 a0.2.2.1 (pShl .u64 a0.2.2.1 13)) (pShr .u64 (pXor .u64 a0.2.2.1 (pShl .u64 a0.2.2.1 13)) 7)) 17)),a0.2.2.2)))))))))))
def zAI (N:Nat) (a0:List (Int)×Int×Int×Int×Unit) (a1:Int):Option (Bool×List Int×Int×Int×Int×Unit) :=
 bindO (zA9 N a0 a1) fun y1 =>
 some ((pEq y1.1 0),y1.2)
def zBI (N:Nat) (a0:List (Int)×Int×Int×Int×Unit) (a1:List (ByteArray)):Option (ByteArray×List Int×Int×Int×Int×Unit) :=
 bindO (zA9 N a0 (pLen a1)) fun y2 =>
 bindO (idx a1 y2.1) fun y3 =>
 some (y3,y2.2)
def zBG.l4 {R:Type} (N:Nat) (d:List Int×List Int×Int×Unit) (kn:List Int×List Int×Int×Unit→Option R) (kx:(Unit) ⊕ (Bool×Unit)→Option R):Option R :=
 let x13:=d.1;
 let x14:=d.2.1;
 let x15:=d.2.2.1;
 ifB (pLt x15 (pLen x13)) (
 bindO (idx x13 x15) fun y16 =>
 bindO (idx x14 x15) fun y17 =>
 ifB (pNe y16 y17) (
 kx (.inr (false,()))) (
 kn (x13,x14,(pAdd .i64 x15 1),()))) (
 kx (.inl (())))
def zBG (N:Nat) (a0:List (Int)) (a1:List (Int)):Option (Bool) :=
 ifB (pNe (pLen a0) (pLen a1)) (
 some false) (
 loopP (zBG.l4 N) N (a0,a1,0,()) (
 onSum (fun d =>
 some true) (
 fun d =>
 let x18:=d.1;
 some x18)))
end Go.AE.F
end
