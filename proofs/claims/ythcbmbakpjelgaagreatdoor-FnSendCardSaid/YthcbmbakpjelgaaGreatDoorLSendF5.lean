/- Functions as they are printed out of the program: plain Lean, nothing is claimed here. -/
import Derived.Test.YthcbmbakpjelgaaGreatDoorLSendF4
noncomputable section
namespace Go.AE.F
open Go.AE
def zAR (N:Nat) (a0:List (Int)×Int×Unit):Option (Bool) :=
 loopP (zAR.l2 N) N (a0.1,(pLen a0.1),0,a0,()) (
 onSum (fun d =>
 let x40:=d.1;
 bindO (
 ifB (pLe (pLen x40.1) 4) (
 bindO (zBA N x40.2.1 0 3) fun y42 =>
 some y42) (
 some false)) fun y41 =>
 some y41) (
 fun d =>
 let x43:=d.1;
 some x43))
def zBP (N:Nat) (a0:List (Int)×Int×Unit):Option (Bool) :=
 bindO (
 ifB (pGt (pLen a0.1) 0) (
 bindO (idx a0.1 0) fun y4 =>
 bindO (zAW N y4) fun y5 =>
 some (pEq y5 2)) (
 some false)) fun y3 =>
 some y3
def zB0 (N:Nat) (a0:List (Int)×Int×Unit):Option (Bool) :=
 some (pEq (pLen a0.1) 0)
def zAL.l4 {R:Type} (N:Nat) (d:(List (List Int×Int×Unit))×Int×Int×(Int×Int×(List (List Int×Int×Unit))×Int×Int×Bool×Int×Unit)×Unit) (kn:(List (List Int×Int×Unit))×Int×Int×(Int×Int×(List (List Int×Int×Unit))×Int×Int×Bool×Int×Unit)×Unit->Option R) (kx:(Unit) ⊕ (Bool×Unit)->Option R):Option R :=
 let x45:=d.1;
 let x46:=d.2.1;
 let x47:=d.2.2.1;
 let x48:=d.2.2.2.1;
 ifB (pLt x47 x46) (
 bindO (A:=((List (List Int×Int×Unit))×Int×Int×(Int×Int×(List (List Int×Int×Unit))×Int×Int×Bool×Int×Unit)×Unit) ⊕ (Bool×Unit)) (
 bindO (idx x45 x47) fun y49 =>
 bindO (zAR N y49) fun y50 =>
 ifB (pNot y50) (
 some (.inr (false,()))) (
 bindO (zBP N y49) fun y51 =>
 ifB (pNot y51) (
 some (.inl (x45,x46,x47,x48,()))) (
 ifB (pEq x48.2.1 0) (
 none) (
 ifB (pEq (pRem (pAdd .i64 x47 1) x48.2.1) 0) (
 some (.inr (false,()))) (
 bindO (idx x48.2.2.1 (pAdd .i64 x47 1)) fun y52 =>
 bindO (zB0 N y52) fun y53 =>
 ifB (pNot y53) (
 some (.inr (false,()))) (
 bindO (idx x48.2.2.1 (pAdd .i64 x47 1)) fun y54 =>
 ifB (pNe y54.2.1 y49.2.1) (
 some (.inr (false,()))) (
 some (.inl (x45,x46,x47,x48,()))))))))) (
 onSum (fun d =>
 let x55:=d.1;
 let x56:=d.2.1;
 let x57:=d.2.2.1;
 let x58:=d.2.2.2.1;
 kn (x55,x56,(pAdd .i64 x57 1),x58,())) (
 fun d =>
 let x59:=d.1;
 kx (.inr (x59,()))))) (
 kx (.inl (())))
def zAL (N:Nat) (a0:Int×Int×(List (List (Int)×Int×Unit))×Int×Int×Bool×Int×Unit):Option (Bool) :=
 bindO (zCM N a0.1) fun y39 =>
 ifB (pNot y39) (
 some false) (
 bindO (zCN N a0.2.1) fun y40 =>
 ifB (pNot y40) (
 some false) (
 bindO (zBE N a0.2.2.1) fun y41 =>
 ifB (pNe y41 (pMul .i64 a0.1 a0.2.1)) (
 some false) (
 bindO (zBA N a0.2.2.2.1 0 (pSub .i64 a0.1 1)) fun y42 =>
 ifB (pNot y42) (
 some false) (
 bindO (zBA N a0.2.2.2.2.1 0 (pSub .i64 a0.2.1 1)) fun y43 =>
 ifB (pNot y43) (
 some false) (
 ifB a0.2.2.2.2.2.1 (
 ifB (pNe a0.2.2.2.2.1 (pSub .i64 a0.2.1 1)) (
 some false) (
 bindO (zBA N a0.2.2.2.2.2.2.1 0 3) fun y44 =>
 ifB (pNot y44) (
 some false) (
 loopP (zAL.l4 N) N (a0.2.2.1,(pLen a0.2.2.1),0,a0,()) (
 onSum (fun d =>
 some true) (
 fun d =>
 let x60:=d.1;
 some x60))))) (
 bindO (zBA N a0.2.2.2.2.2.2.1 0 3) fun y61 =>
 ifB (pNot y61) (
 some false) (
 loopP (zAL.l4 N) N (a0.2.2.1,(pLen a0.2.2.1),0,a0,()) (
 onSum (fun d =>
 some true) (
 fun d =>
 let x77:=d.1;
 some x77)))))))))
def zAV (N:Nat) (a0:Int×Int×(List (List (Int)×Int×Unit))×Int×Int×Bool×Int×Unit) (a1:Int):Option (Bool) :=
 ifB (pEq a0.2.1 0) (
 none) (
 bindO (
 ifB (pGt (pRem a1 a0.2.1) 0) (
 bindO (idx a0.2.2.1 (pSub .i64 a1 1)) fun y4 =>
 bindO (zBP N y4) fun y5 =>
 some y5) (
 some false)) fun y3 =>
 some y3)
def zAO.l5 {R:Type} (N:Nat) (d:Bool×Int×Int×(Int×Int×(List (List Int×Int×Unit))×Int×Int×Bool×Int×Unit)×Unit) (kn:Bool×Int×Int×(Int×Int×(List (List Int×Int×Unit))×Int×Int×Bool×Int×Unit)×Unit->Option R) (kx:(Unit) ⊕ (Bool×Unit)->Option R):Option R :=
 let x39:=d.1;
 let x40:=d.2.1;
 let x41:=d.2.2.1;
 let x42:=d.2.2.2.1;
 ifB (pLt x41 x40) (
 bindO (A:=(Bool×Int×Int×(Int×Int×(List (List Int×Int×Unit))×Int×Int×Bool×Int×Unit)×Unit) ⊕ (Bool×Unit)) (
 ifB (pEq x42.2.1 0) (
 none) (
 ifB (pEq (pRem x41 x42.2.1) 0) (
 bindO (idx x42.2.2.1 x41) fun y43 =>
 bindO (zAV N x42 x41) fun y44 =>
 ifB y44 (
 some (.inl (false,x40,x41,x42,()))) (
 bindO (zB0 N y43) fun y45 =>
 ifB (pNot y45) (
 some (.inl (false,x40,x41,x42,()))) (
 ifB (pNe y43.2.1 0) (
 some (.inr (false,()))) (
 some (.inl (true,x40,x41,x42,())))))) (
 bindO (idx x42.2.2.1 x41) fun y46 =>
 bindO (zAV N x42 x41) fun y47 =>
 ifB y47 (
 some (.inl (x39,x40,x41,x42,()))) (
 bindO (zB0 N y46) fun y48 =>
 ifB (pNot y48) (
 ifB x39 (
 some (.inr (false,()))) (
 some (.inl (x39,x40,x41,x42,())))) (
 ifB (pNe y46.2.1 0) (
 some (.inr (false,()))) (
 some (.inl (true,x40,x41,x42,())))))))) (
 onSum (fun d =>
 let x49:=d.1;
 let x50:=d.2.1;
 let x51:=d.2.2.1;
 let x52:=d.2.2.2.1;
 kn (x49,x50,(pAdd .i64 x51 1),x52,())) (
 fun d =>
 let x53:=d.1;
 kx (.inr (x53,()))))) (
 kx (.inl (())))
def zAO (N:Nat) (a0:Int×Int×(List (List (Int)×Int×Unit))×Int×Int×Bool×Int×Unit):Option (Bool) :=
 bindO (zAL N a0) fun y35 =>
 bindO (
 ifB (pNot y35) (
 some true) (
 some a0.2.2.2.2.2.1)) fun y36 =>
 bindO (
 ifB y36 (
 some true) (
 some (pNe a0.2.2.2.2.2.2.1 0))) fun y37 =>
 ifB y37 (
 some false) (
 bindO (zBE N a0.2.2.1) fun y38 =>
 loopP (zAO.l5 N) N (false,y38,0,a0,()) (
 onSum (fun d =>
 some true) (
 fun d =>
 let x54:=d.1;
 some x54)))
def zBI (N:Nat) (a0:Int):Option (ByteArray) :=
 ifB (pLt a0 10) (
 ifB (pLe 0 a0) (
 ifB (pLe a0 (pAdd .i64 a0 1)) (
 ifB (pLe (pAdd .i64 a0 1) (pSize (ByteArray.mk #[48,49,50,51,52,53,54,55,56,57,97,98,99,100,101,102,103,104,105,106,107,108,109,110,111,112,113,114,115,116,117,118,119,120,121,122]))) (
 some (ssub (ByteArray.mk #[48,49,50,51,52,53,54,55,56,57,97,98,99,100,101,102,103,104,105,106,107,108,109,110,111,112,113,114,115,116,117,118,119,120,121,122]) a0 (pAdd .i64 a0 1))) (
 none)) (
 none)) (
 none)) (
 ifB (pLe 0 (pMul .i64 a0 2)) (
 ifB (pLe (pMul .i64 a0 2) (pAdd .i64 (pMul .i64 a0 2) 2)) (
 ifB (pLe (pAdd .i64 (pMul .i64 a0 2) 2) (pSize (ByteArray.mk (List.toArray (List.append (List.append [48,48,48,49,48,50,48,51,48,52,48,53,48,54,48,55,48,56,48,57,49,48,49,49,49,50,49,51,49,52,49,53,49,54,49,55,49,56,49,57,50,48,50,49,50,50,50,51,50,52] [50,53,50,54,50,55,50,56,50,57,51,48,51,49,51,50,51,51,51,52,51,53,51,54,51,55,51,56,51,57,52,48,52,49,52,50,52,51,52,52,52,53,52,54,52,55,52,56,52,57]) (List.append [53,48,53,49,53,50,53,51,53,52,53,53,53,54,53,55,53,56,53,57,54,48,54,49,54,50,54,51,54,52,54,53,54,54,54,55,54,56,54,57,55,48,55,49,55,50,55,51,55,52] [55,53,55,54,55,55,55,56,55,57,56,48,56,49,56,50,56,51,56,52,56,53,56,54,56,55,56,56,56,57,57,48,57,49,57,50,57,51,57,52,57,53,57,54,57,55,57,56,57,57])))))) (
 some (ssub (ByteArray.mk (List.toArray (List.append (List.append [48,48,48,49,48,50,48,51,48,52,48,53,48,54,48,55,48,56,48,57,49,48,49,49,49,50,49,51,49,52,49,53,49,54,49,55,49,56,49,57,50,48,50,49,50,50,50,51,50,52] [50,53,50,54,50,55,50,56,50,57,51,48,51,49,51,50,51,51,51,52,51,53,51,54,51,55,51,56,51,57,52,48,52,49,52,50,52,51,52,52,52,53,52,54,52,55,52,56,52,57]) (List.append [53,48,53,49,53,50,53,51,53,52,53,53,53,54,53,55,53,56,53,57,54,48,54,49,54,50,54,51,54,52,54,53,54,54,54,55,54,56,54,57,55,48,55,49,55,50,55,51,55,52] [55,53,55,54,55,55,55,56,55,57,56,48,56,49,56,50,56,51,56,52,56,53,56,54,56,55,56,56,56,57,57,48,57,49,57,50,57,51,57,52,57,53,57,54,57,55,57,56,57,57])))) (pMul .i64 a0 2) (pAdd .i64 (pMul .i64 a0 2) 2))) (
 none)) (
 none)) (
 none))
def zB6 (N:Nat) (a0:Int) (a1:Int):Option (ByteArray) :=
 ifB (pEq a1 10) (
 bindO (
 ifB (pLe 0 a0) (
 some (pLt a0 100)) (
 some false)) fun y2 =>
 ifB y2 (
 bindO (zBI N a0) fun y3 =>
 some y3) (
 none)) (
 none)
def zC5 (N:Nat) (a0:Int) (a1:Int):Option (ByteArray) :=
 bindO (zB6 N a0 a1) fun y1 =>
 some y1
def zA9 (N:Nat) (a0:Int):Option (ByteArray) :=
 bindO (zC5 N a0 10) fun y1 =>
 some y1
def zCV (N:Nat) (a0:Int) (a1:Int):Option (ByteArray) :=
 bindO (zA9 N (pAdd .i64 a0 1)) fun y2 =>
 ifB (pFitS (ByteArray.mk #[27,91]) y2) (
 ifB (pFitS (pCat (ByteArray.mk #[27,91]) y2) (ByteArray.mk #[59])) (
 bindO (zA9 N (pAdd .i64 a1 1)) fun y3 =>
 ifB (pFitS (pCat (pCat (ByteArray.mk #[27,91]) y2) (ByteArray.mk #[59])) y3) (
 ifB (pFitS (pCat (pCat (pCat (ByteArray.mk #[27,91]) y2) (ByteArray.mk #[59])) y3) (ByteArray.mk #[72])) (
 some (pCat (pCat (pCat (pCat (ByteArray.mk #[27,91]) y2) (ByteArray.mk #[59])) y3) (ByteArray.mk #[72]))) (
 none)) (
 none)) (
 none)) (
 none)
def zAP (N:Nat) (a0:List (Int)) (a1:Int):Option (List Int) :=
 ifB (pLe (pConv .u32 a1) 2047) (
 ifB (pLt 6 0) (
 none) (
 ifB (pFit a0 [(pOr .u8 192 (pConv .u8 (pShr .i32 a1 6))),(pOr .u8 128 (pAnd .u8 (pConv .u8 a1) 63))]) (
 some (pApp a0 [(pOr .u8 192 (pConv .u8 (pShr .i32 a1 6))),(pOr .u8 128 (pAnd .u8 (pConv .u8 a1) 63))])) (
 none))) (
 ifB (pLt (pConv .u32 a1) 55296) (
 ifB (pLt 12 0) (
 none) (
 ifB (pLt 6 0) (
 none) (
 ifB (pFit a0 [(pOr .u8 224 (pConv .u8 (pShr .i32 a1 12))),(pOr .u8 128 (pAnd .u8 (pConv .u8 (pShr .i32 a1 6)) 63)),(pOr .u8 128 (pAnd .u8 (pConv .u8 a1) 63))]) (
 some (pApp a0 [(pOr .u8 224 (pConv .u8 (pShr .i32 a1 12))),(pOr .u8 128 (pAnd .u8 (pConv .u8 (pShr .i32 a1 6)) 63)),(pOr .u8 128 (pAnd .u8 (pConv .u8 a1) 63))])) (
 none)))) (
 bindO (
 ifB (pLt 57343 (pConv .u32 a1)) (
 some (pLe (pConv .u32 a1) 65535)) (
 some false)) fun y2 =>
 ifB y2 (
 ifB (pLt 12 0) (
 none) (
 ifB (pLt 6 0) (
 none) (
 ifB (pFit a0 [(pOr .u8 224 (pConv .u8 (pShr .i32 a1 12))),(pOr .u8 128 (pAnd .u8 (pConv .u8 (pShr .i32 a1 6)) 63)),(pOr .u8 128 (pAnd .u8 (pConv .u8 a1) 63))]) (
 some (pApp a0 [(pOr .u8 224 (pConv .u8 (pShr .i32 a1 12))),(pOr .u8 128 (pAnd .u8 (pConv .u8 (pShr .i32 a1 6)) 63)),(pOr .u8 128 (pAnd .u8 (pConv .u8 a1) 63))])) (
 none)))) (
 bindO (
 ifB (pGt (pConv .u32 a1) 65535) (
 some (pLe (pConv .u32 a1) 1114111)) (
 some false)) fun y3 =>
 ifB y3 (
 ifB (pLt 18 0) (
 none) (
 ifB (pLt 12 0) (
 none) (
 ifB (pLt 6 0) (
 none) (
 ifB (pFit a0 [(pOr .u8 240 (pConv .u8 (pShr .i32 a1 18))),(pOr .u8 128 (pAnd .u8 (pConv .u8 (pShr .i32 a1 12)) 63)),(pOr .u8 128 (pAnd .u8 (pConv .u8 (pShr .i32 a1 6)) 63)),(pOr .u8 128 (pAnd .u8 (pConv .u8 a1) 63))]) (
 some (pApp a0 [(pOr .u8 240 (pConv .u8 (pShr .i32 a1 18))),(pOr .u8 128 (pAnd .u8 (pConv .u8 (pShr .i32 a1 12)) 63)),(pOr .u8 128 (pAnd .u8 (pConv .u8 (pShr .i32 a1 6)) 63)),(pOr .u8 128 (pAnd .u8 (pConv .u8 a1) 63))])) (
 none))))) (
 ifB (pFit a0 [239,191,189]) (
 some (pApp a0 [239,191,189])) (
 none)))))
def zBB (N:Nat) (a0:List (Int)) (a1:Int):Option (List Int) :=
 ifB (pLe (pConv .u32 a1) 127) (
 ifB (pFit a0 [(pConv .u8 a1)]) (
 some (pApp a0 [(pConv .u8 a1)])) (
 none)) (
 bindO (zAP N a0 a1) fun y1 =>
 some y1)
def zB9.l3 {R:Type} (N:Nat) (d:List Int×Int×Int×List Int×Unit) (kn:List Int×Int×Int×List Int×Unit->Option R) (kx:List Int×Unit->Option R):Option R :=
 let x15:=d.1;
 let x16:=d.2.1;
 let x17:=d.2.2.1;
 let x18:=d.2.2.2.1;
 ifB (pLt x17 x16) (
 bindO (idx x15 x17) fun y19 =>
 bindO (zBB N x18 (pConv .i32 y19)) fun y20 =>
 kn (x15,x16,(pAdd .i64 x17 1),y20,())) (
 kx (x18,()))
def zB9 (N:Nat) (a0:List (Int)):Option (ByteArray) :=
 loopP (zB9.l3 N) N (a0,(pLen a0),0,[],()) (
 fun d =>
 let x21:=d.1;
 some (bytesOf x21))
def zAH.l5 {R:Type} (N:Nat) (d:Int×(List (List Int×Int×Unit))×Int×Int×(List Unit×List Int×Unit)×Unit) (kn:Int×(List (List Int×Int×Unit))×Int×Int×(List Unit×List Int×Unit)×Unit->Option R) (kx:Int×(List Unit×List Int×Unit)×Unit->Option R):Option R :=
 let x34:=d.1;
 let x35:=d.2.1;
 let x36:=d.2.2.1;
 let x37:=d.2.2.2.1;
 let x38:=d.2.2.2.2.1;
 ifB (pLt x37 x36) (
 bindO (A:=Int×(List (List Int×Int×Unit))×Int×Int×(List Unit×List Int×Unit)×Unit) (
 bindO (idx x35 x37) fun y39 =>
 bindO (zB0 N y39) fun y40 =>
 ifB y40 (
 some (x34,x35,x36,x37,x38,())) (
 ifB (pNe y39.2.1 x34) (
 bindO (zA9 N y39.2.1) fun y41 =>
 ifB (pFitS (ByteArray.mk #[27,91]) y41) (
 ifB (pFitS (pCat (ByteArray.mk #[27,91]) y41) (ByteArray.mk #[109])) (
 ifB (pFit x38.2.1 (strInts (pCat (pCat (ByteArray.mk #[27,91]) y41) (ByteArray.mk #[109])))) (
 bindO (zB9 N y39.1) fun y42 =>
 ifB (pFit (pApp x38.2.1 (strInts (pCat (pCat (ByteArray.mk #[27,91]) y41) (ByteArray.mk #[109])))) (strInts y42)) (
 some (y39.2.1,x35,x36,x37,([],((pApp (pApp x38.2.1 (strInts (pCat (pCat (ByteArray.mk #[27,91]) y41) (ByteArray.mk #[109])))) (strInts y42)),())),())) (
 none)) (
 none)) (
 none)) (
 none)) (
 bindO (zB9 N y39.1) fun y43 =>
 ifB (pFit x38.2.1 (strInts y43)) (
 some (x34,x35,x36,x37,([],((pApp x38.2.1 (strInts y43)),())),())) (
 none)))) (
 fun d =>
 let x44:=d.1;
 let x45:=d.2.1;
 let x46:=d.2.2.1;
 let x47:=d.2.2.2.1;
 let x48:=d.2.2.2.2.1;
 kn (x44,x45,x46,(pAdd .i64 x47 1),x48,()))) (
 kx (x34,x38,()))
end Go.AE.F
end
