/- Functions as they are printed out of the program: plain Lean, nothing is claimed here. -/
import Derived.Test.YthcbmbakpjelgaaGreatDoorA5
noncomputable section
namespace Go.AE.F
open Go.AE
def zCG (N:Nat) (a0:ByteArray):Option (Bool) :=
 some (pGt (pSize a0) 20000)
def zA1.l2 {R:Type} (N:Nat) (d:List ByteArray×Int×Int×Unit) (kn:List ByteArray×Int×Int×Unit->Option R) (kx:(Unit) ⊕ (Int×Unit)->Option R):Option R :=
 let x36:=d.1;
 let x37:=d.2.1;
 let x38:=d.2.2.1;
 ifB (pLt x38 x37) (
 bindO (idx x36 x38) fun y41 =>
 bindO (zCG N y41) fun y42 =>
 ifB y42 (
 kx (.inr (x38,()))) (
 kn (x36,x37,(pAdd .i64 x38 1),()))) (
 kx (.inl (())))
def zA1 (N:Nat) (a0:List (ByteArray)):Option (Int) :=
 loopP (zA1.l2 N) N (a0,(pLen a0),0,()) (
 onSum (fun d =>
 some (-1)) (
 fun d =>
 let x43:=d.1;
 some x43))
def zA6 (N:Nat) (a0:List (ByteArray)):Option (Bool) :=
 bindO (zA1 N a0) fun y1 =>
 some (pGe y1 0)
def zCR (N:Nat) (a0:List (ByteArray)):Option (Bool) :=
 bindO (zA6 N a0) fun y1 =>
 some y1
def zBQ (N:Nat) (a0:Int):Option (Bool) :=
 bindO (
 ifB (pGe a0 0) (
 some (pLe a0 1114111)) (
 some false)) fun y3 =>
 bindO (
 ifB y3 (
 bindO (
 ifB (pGe a0 55296) (
 some (pLe a0 57343)) (
 some false)) fun y5 =>
 some (pNot y5)) (
 some false)) fun y4 =>
 some y4
def zDY (N:Nat) (a0:List (Int)):Option (Int) :=
 some (pLen a0)
def zBA (N:Nat) (a0:Int) (a1:Int) (a2:Int):Option (Bool) :=
 bindO (
 ifB (pLe a1 a0) (
 some (pLe a0 a2)) (
 some false)) fun y1 =>
 some y1
def zCE (N:Nat) (a0:Int):Option (Bool) :=
 bindO (zBA N a0 0 1114111) fun y3 =>
 bindO (
 ifB y3 (
 bindO (zBA N a0 55296 57343) fun y5 =>
 some (pNot y5)) (
 some false)) fun y4 =>
 some y4
def zAJ.l4 {R:Type} (N:Nat) (d:List Int×Int×Unit) (kn:List Int×Int×Unit->Option R) (kx:(Unit) ⊕ (Bool×Unit)->Option R):Option R :=
 let x31:=d.1;
 let x32:=d.2.1;
 ifB (pLt x32 (pLen x31)) (
 bindO (idx x31 x32) fun y35 =>
 bindO (zBQ N y35) fun y36 =>
 ifB (pNot y36) (
 kx (.inr (false,()))) (
 kn (x31,(pAdd .i64 x32 1),()))) (
 kx (.inl (())))
def zAJ (N:Nat) (a0:List (Int)):Option (Bool) :=
 ifB (pGt (pLen a0) 300) (
 some false) (
 loopP (zAJ.l4 N) N (a0,0,()) (
 onSum (fun d =>
 some true) (
 fun d =>
 let x37:=d.1;
 some x37)))
def zCK (N:Nat) (a0:List (Int)×Int×Int×Unit):Option (Bool) :=
 bindO (zAJ N a0.1) fun y5 =>
 bindO (
 ifB y5 (
 some (pGe a0.2.1 0)) (
 some false)) fun y6 =>
 bindO (
 ifB y6 (
 some (pLe a0.2.1 (pLen a0.1))) (
 some false)) fun y7 =>
 bindO (
 ifB y7 (
 some (pGe a0.2.2.1 0)) (
 some false)) fun y8 =>
 bindO (
 ifB y8 (
 some (pLe a0.2.2.1 (pLen a0.1))) (
 some false)) fun y9 =>
 some y9
def zC1 (N:Nat) (a0:List (Int)):Option (List Int) :=
 ifB (pFit [] a0) (
 some (pApp [] a0)) (
 none)
def zDM (N:Nat) (a0:Int):Option (Bool) :=
 bindO (zCE N a0) fun y1 =>
 some (pNot y1)
def zCC.l2 {R:Type} (N:Nat) (d:List Int×Int×Int×Unit) (kn:List Int×Int×Int×Unit->Option R) (kx:(Unit) ⊕ (Int×Unit)->Option R):Option R :=
 let x36:=d.1;
 let x37:=d.2.1;
 let x38:=d.2.2.1;
 ifB (pLt x38 x37) (
 bindO (idx x36 x38) fun y41 =>
 bindO (zDM N y41) fun y42 =>
 ifB y42 (
 kx (.inr (x38,()))) (
 kn (x36,x37,(pAdd .i64 x38 1),()))) (
 kx (.inl (())))
def zCC (N:Nat) (a0:List (Int)):Option (Int) :=
 loopP (zCC.l2 N) N (a0,(pLen a0),0,()) (
 onSum (fun d =>
 some (-1)) (
 fun d =>
 let x43:=d.1;
 some x43))
def zCY (N:Nat) (a0:List (Int)):Option (Bool) :=
 bindO (zCC N a0) fun y1 =>
 some (pGe y1 0)
def zDL (N:Nat) (a0:List (Int)):Option (Bool) :=
 bindO (
 ifB (pLe (pLen a0) 300) (
 bindO (zCY N a0) fun y3 =>
 some (pNot y3)) (
 some false)) fun y2 =>
 some y2
def zDZ (N:Nat) (a0:List (Int)×Int×Int×Unit) (a1:Int):Option (Bool) :=
 bindO (zDY N a0.1) fun y2 =>
 bindO (zBA N a1 0 y2) fun y3 =>
 some y3
def zEH (N:Nat) (a0:List (Int)×Int×Int×Unit):Option (Bool) :=
 bindO (zDL N a0.1) fun y5 =>
 bindO (
 ifB y5 (
 bindO (zDZ N a0 a0.2.1) fun y7 =>
 some y7) (
 some false)) fun y6 =>
 bindO (
 ifB y6 (
 bindO (zDZ N a0 a0.2.2.1) fun y9 =>
 some y9) (
 some false)) fun y8 =>
 some y8
def zB2.l4 {R:Type} (N:Nat) (d:List Int×List Int×Int×Unit) (kn:List Int×List Int×Int×Unit->Option R) (kx:(Unit) ⊕ (Bool×Unit)->Option R):Option R :=
 let x36:=d.1;
 let x37:=d.2.1;
 let x38:=d.2.2.1;
 ifB (pLt x38 (pLen x36)) (
 bindO (idx x36 x38) fun y41 =>
 bindO (idx x37 x38) fun y42 =>
 ifB (pNe y41 y42) (
 kx (.inr (false,()))) (
 kn (x36,x37,(pAdd .i64 x38 1),()))) (
 kx (.inl (())))
def zB2 (N:Nat) (a0:List (Int)) (a1:List (Int)):Option (Bool) :=
 ifB (pNe (pLen a0) (pLen a1)) (
 some false) (
 loopP (zB2.l4 N) N (a0,a1,0,()) (
 onSum (fun d =>
 some true) (
 fun d =>
 let x43:=d.1;
 some x43)))
def zG6 (N:Nat) (a0:Int):Option (Bool) :=
 some (pGt a0 400)
def zA3.l4 {R:Type} (N:Nat) (d:List Int×List Int×Int×Int×Unit) (kn:List Int×List Int×Int×Int×Unit->Option R) (kx:(Unit) ⊕ (Bool×Unit)->Option R):Option R :=
 let x41:=d.1;
 let x42:=d.2.1;
 let x43:=d.2.2.1;
 let x44:=d.2.2.2.1;
 ifB (pLt x44 x43) (
 bindO (idx x41 x44) fun y47 =>
 bindO (idx x42 x44) fun y48 =>
 ifB (pNe y47 y48) (
 kx (.inr (false,()))) (
 kn (x41,x42,x43,(pAdd .i64 x44 1),()))) (
 kx (.inl (())))
def zA3 (N:Nat) (a0:List (Int)) (a1:List (Int)):Option (Bool) :=
 ifB (pNe (pLen a0) (pLen a1)) (
 some false) (
 loopP (zA3.l4 N) N (a0,a1,(pLen a0),0,()) (
 onSum (fun d =>
 some true) (
 fun d =>
 let x49:=d.1;
 some x49)))
def zAA.g {R:Type} (N:Nat) (a0:List (Int)) (k:List Int->Option R):Option R :=
 ifB (pEq (pLen a0) 0) (
 same (
 k []) (
 ifB (pFit [] a0) (
 k (pApp [] a0)) (
 none))) (
 ifB (pFit [] a0) (
 k (pApp [] a0)) (
 none))
def zAA (N:Nat) (a0:List (Int)):Option (List Int):=zAA.g N a0 some
def zAS.l3 {R:Type} (N:Nat) (d:List Int×Int×(List Int×Int×Int×Int×Unit)×Unit) (kn:List Int×Int×(List Int×Int×Int×Int×Unit)×Unit->Option R) (kx:List Int×(List Int×Int×Int×Int×Unit)×Unit->Option R):Option R :=
 let x13:=d.1;
 let x14:=d.2.1;
 let x15:=d.2.2.1;
 bindO (
 ifB (pLt x14 (pLen x13)) (
 some (pLt x14 64)) (
 some false)) fun y16 =>
 ifB y16 (
 bindO (idx x13 x14) fun y17 =>
 kn (x13,(pAdd .i64 x14 1),(x15.1,(x15.2.1,((pMul .u64 (pXor .u64 x15.2.2.1 (pConv .u64 y17)) 1099511628211),x15.2.2.2))),())) (
 kx (x13,x15,()))
def zAS (N:Nat) (a0:List (Int)):Option (List Int×Int×Int×Int×Unit) :=
 loopP (zAS.l3 N) N (a0,0,(a0,(0,(88172645463325252,(0,())))),()) (
 fun d =>
 let x18:=d.1;
 let x19:=d.2.1;
 ifB (pEq 20 0) (
 none) (
 ifB (pGt (pQuo .i64 (pLen x18) 20) 12) (
 some (x19.1,(x19.2.1,(x19.2.2.1,(12,x19.2.2.2.2))))) (
 some (x19.1,(x19.2.1,(x19.2.2.1,((pQuo .i64 (pLen x18) 20),x19.2.2.2.2)))))))
def zAC (N:Nat) (a0:List (Int)×Int×Int×Int×Unit) (a1:Int):Option (Int×List Int×Int×Int×Int×Unit) :=
 ifB (pLe a1 1) (
 some (0,a0)) (
 ifB (pLt a0.2.1 (pLen a0.1)) (
 bindO (idx a0.1 a0.2.1) fun y1 =>
 ifB (pLt 13 0) (
 none) (
 ifB (pLt 7 0) (
 none) (
 ifB (pLt 17 0) (
 none) (
 ifB (pLt 20 0) (
 none) (
 ifB (pEq (pConv .u64 a1) 0) (
 none) (
 some ((pConv .i64 (pRem (pAdd .u64 (pConv .u64 y1) (pShr .u64 (pXor .u64 (pXor .u64 (pXor .u64 a0.2.2.1 (pShl .u64 a0.2.2.1 13)) (pShr .u64 (pXor .u64 a0.2.2.1 (pShl .u64 a0.2.2.1 13)) 7)) (pShl .u64 (pXor .u64 (pXor .u64 a0.2.2.1 (pShl .u64 a0.2.2.1 13)) (pShr .u64 (pXor .u64 a0.2.2.1 (pShl .u64 a0.2.2.1 13)) 7)) 17)) 20)) (pConv .u64 a1))),(a0.1,((pAdd .i64 a0.2.1 1),((pXor .u64 (pXor .u64 (pXor .u64 a0.2.2.1 (pShl .u64 a0.2.2.1 13)) (pShr .u64 (pXor .u64 a0.2.2.1 (pShl .u64 a0.2.2.1 13)) 7)) (pShl .u64 (pXor .u64 (pXor .u64 a0.2.2.1 (pShl .u64 a0.2.2.1 13)) (pShr .u64 (pXor .u64 a0.2.2.1 (pShl .u64 a0.2.2.1 13)) 7)) 17)),a0.2.2.2)))))))))) (
 ifB (pLt 13 0) (
 none) (
 ifB (pLt 7 0) (
 none) (
 ifB (pLt 17 0) (
 none) (
 ifB (pLt 20 0) (
 none) (
 ifB (pEq (pConv .u64 a1) 0) (
 none) (
 some ((pConv .i64 (pRem (pAdd .u64 0 (pShr .u64 (pXor .u64 (pXor .u64 (pXor .u64 a0.2.2.1 (pShl .u64 a0.2.2.1 13)) (pShr .u64 (pXor .u64 a0.2.2.1 (pShl .u64 a0.2.2.1 13)) 7)) (pShl .u64 (pXor .u64 (pXor .u64 a0.2.2.1 (pShl .u64 a0.2.2.1 13)) (pShr .u64 (pXor .u64 a0.2.2.1 (pShl .u64 a0.2.2.1 13)) 7)) 17)) 20)) (pConv .u64 a1))),(a0.1,(a0.2.1,((pXor .u64 (pXor .u64 (pXor .u64 a0.2.2.1 (pShl .u64 a0.2.2.1 13)) (pShr .u64 (pXor .u64 a0.2.2.1 (pShl .u64 a0.2.2.1 13)) 7)) (pShl .u64 (pXor .u64 (pXor .u64 a0.2.2.1 (pShl .u64 a0.2.2.1 13)) (pShr .u64 (pXor .u64 a0.2.2.1 (pShl .u64 a0.2.2.1 13)) 7)) 17)),a0.2.2.2)))))))))))
def zBC (N:Nat) (a0:List (Int)×Int×Int×Int×Unit) (a1:Int):Option (Bool×List Int×Int×Int×Int×Unit) :=
 bindO (zAC N a0 a1) fun y1 =>
 some ((pEq y1.1 0),y1.2)
def zBZ (N:Nat) (a0:List (Int)×Int×Int×Int×Unit) (a1:List (ByteArray)):Option (ByteArray×List Int×Int×Int×Int×Unit) :=
 bindO (zAC N a0 (pLen a1)) fun y2 =>
 bindO (idx a1 y2.1) fun y3 =>
 some (y3,y2.2)
def zC9 (N:Nat) (a0:Int):Option (List Int) :=
 ifB (pLt a0 128) (
 some [(pConv .u8 a0)]) (
 ifB (pLt a0 2048) (
 ifB (pEq 64 0) (
 none) (
 ifB (pEq 64 0) (
 none) (
 some [(pConv .u8 (pAdd .i64 192 (pQuo .i64 a0 64))),(pConv .u8 (pAdd .i64 128 (pRem a0 64)))]))) (
 ifB (pLt a0 65536) (
 ifB (pEq 4096 0) (
 none) (
 ifB (pEq 64 0) (
 none) (
 ifB (pEq 64 0) (
 none) (
 ifB (pEq 64 0) (
 none) (
 some [(pConv .u8 (pAdd .i64 224 (pQuo .i64 a0 4096))),(pConv .u8 (pAdd .i64 128 (pRem (pQuo .i64 a0 64) 64))),(pConv .u8 (pAdd .i64 128 (pRem a0 64)))]))))) (
 ifB (pEq 262144 0) (
 none) (
 ifB (pEq 4096 0) (
 none) (
 ifB (pEq 64 0) (
 none) (
 ifB (pEq 64 0) (
 none) (
 ifB (pEq 64 0) (
 none) (
 ifB (pEq 64 0) (
 none) (
 some [(pConv .u8 (pAdd .i64 240 (pQuo .i64 a0 262144))),(pConv .u8 (pAdd .i64 128 (pRem (pQuo .i64 a0 4096) 64))),(pConv .u8 (pAdd .i64 128 (pRem (pQuo .i64 a0 64) 64))),(pConv .u8 (pAdd .i64 128 (pRem a0 64)))])))))))))
def zAY.l18 {R:Type} (N:Nat) (d:ByteArray×Int×Int×Int×Unit) (kn:ByteArray×Int×Int×Int×Unit->Option R) (kx:(ByteArray×Int×Int×Unit) ⊕ (Int×Int×Unit)->Option R):Option R :=
 let x46:=d.1;
 let x47:=d.2.1;
 let x48:=d.2.2.1;
 let x49:=d.2.2.2.1;
 ifB (pLt x49 x47) (
 bindO (bidx x46 x49) fun y50 =>
 bindO (
 ifB (pLt y50 128) (
 some true) (
 bindO (bidx x46 x49) fun y52 =>
 some (pGe y52 192))) fun y51 =>
 ifB y51 (
 kx (.inr (65533,1,()))) (
 bindO (bidx x46 x49) fun y53 =>
 kn (x46,x47,(pAdd .i64 (pMul .i64 64 x48) (pConv .i64 (pSub .u8 y53 128))),(pAdd .i64 x49 1),()))) (
 kx (.inl (x46,x47,x48,())))
end Go.AE.F
end
