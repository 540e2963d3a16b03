/- Functions as they are printed out of the program: plain Lean, nothing is claimed here. -/
import Derived.Test.YthcbmbakpjelgaaGreatDoorLSendF1
noncomputable section
namespace Go.AE.F
open Go.AE
def zAY (N:Nat) (a0:ByteArray):Option (Int×Int) :=
 bindO (bidx a0 0) fun y38 =>
 ifB (pLt (pConv .i64 y38) 128) (
 some ((pConv .i64 y38),1)) (
 bindO (A:=ByteArray×Int×Int×Unit) (
 bindO (
 ifB (pGe (pConv .i64 y38) 192) (
 some (pLt (pConv .i64 y38) 224)) (
 some false)) fun y39 =>
 ifB y39 (
 some (a0,2,(pSub .i64 (pConv .i64 y38) 192),())) (
 bindO (
 ifB (pGe (pConv .i64 y38) 224) (
 some (pLt (pConv .i64 y38) 240)) (
 some false)) fun y40 =>
 ifB y40 (
 some (a0,3,(pSub .i64 (pConv .i64 y38) 224),())) (
 bindO (
 ifB (pGe (pConv .i64 y38) 240) (
 some (pLt (pConv .i64 y38) 248)) (
 some false)) fun y41 =>
 ifB y41 (
 some (a0,4,(pSub .i64 (pConv .i64 y38) 240),())) (
 some (a0,0,0,()))))) (
 fun d =>
 let x42:=d.1;
 let x43:=d.2.1;
 let x44:=d.2.2.1;
 bindO (
 ifB (pEq x43 0) (
 some true) (
 some (pLt (pSize x42) x43))) fun y45 =>
 ifB y45 (
 some (65533,1)) (
 loopP (zAY.l18 N) N (x42,x43,x44,1,()) (
 onSum (fun d =>
 let x54:=d.1;
 let x55:=d.2.1;
 let x56:=d.2.2.1;
 bindO (zBQ N x56) fun y57 =>
 ifB (pNot y57) (
 some (65533,1)) (
 ifB (pLe 0 0) (
 ifB (pLe 0 x55) (
 ifB (pLe x55 (pSize x54)) (
 bindO (zC9 N x56) fun y58 =>
 ifB (pNot (pSEq (bytesOf y58) (ssub x54 0 x55))) (
 some (65533,1)) (
 some (x56,x55))) (
 none)) (
 none)) (
 none))) (
 fun d =>
 let x59:=d.1;
 let x60:=d.2.1;
 some (x59,x60))))))
def zAT.l3 {R:Type} (N:Nat) (d:ByteArray×Int×List Int×Unit) (kn:ByteArray×Int×List Int×Unit->Option R) (kx:List Int×Unit->Option R):Option R :=
 let x9:=d.1;
 let x10:=d.2.1;
 let x11:=d.2.2.1;
 ifB (pLt x10 (pSize x9)) (
 ifB (pLe 0 x10) (
 ifB (pLe x10 (pSize x9)) (
 ifB (pLe (pSize x9) (pSize x9)) (
 bindO (zAY N (ssub x9 x10 (pSize x9))) fun y12 =>
 ifB (pFit x11 [y12.1]) (
 kn (x9,(pAdd .i64 x10 y12.2),(pApp x11 [y12.1]),())) (
 none)) (
 none)) (
 none)) (
 none)) (
 kx (x11,()))
def zAT (N:Nat) (a0:ByteArray):Option (List Int) :=
 loopP (zAT.l3 N) N (a0,0,[],()) (
 fun d =>
 let x13:=d.1;
 some x13)
def zC0 (N:Nat) (a0:List (Int)×Int×Int×Int×Unit):Option (Int×List Int×Int×Int×Int×Unit) :=
 bindO (zAC N a0 14) fun y15 =>
 ifB (pEq y15.1 0) (
 some (32,y15.2)) (
 ifB (pEq y15.1 1) (
 some (10,y15.2)) (
 ifB (pEq y15.1 2) (
 bindO (zAC N y15.2 5) fun y16 =>
 bindO (idx ([0,9,27,31,127]:List Int) y16.1) fun y17 =>
 bindO (idx ([0,9,27,31,127]:List Int) y16.1) fun y18 =>
 some (y18,y16.2)) (
 ifB (pEq y15.1 3) (
 bindO (zAC N y15.2 20) fun y19 =>
 bindO (idx ([768,879,880,4352,4447,4448,11903,11904,42191,42192,44032,55203,63744,64255,65281,65376,65377,127744,129791,129792]:List Int) y19.1) fun y20 =>
 bindO (idx ([768,879,880,4352,4447,4448,11903,11904,42191,42192,44032,55203,63744,64255,65281,65376,65377,127744,129791,129792]:List Int) y19.1) fun y21 =>
 some (y21,y19.2)) (
 ifB (pEq y15.1 4) (
 bindO (zAC N y15.2 8) fun y22 =>
 bindO (idx ([233,960,8364,65533,1114111,65535,55295,57344]:List Int) y22.1) fun y23 =>
 bindO (idx ([233,960,8364,65533,1114111,65535,55295,57344]:List Int) y22.1) fun y24 =>
 some (y24,y22.2)) (
 ifB (pEq y15.1 5) (
 bindO (zAC N y15.2 5) fun y25 =>
 bindO (idx ([46,44,45,40,36]:List Int) y25.1) fun y26 =>
 bindO (idx ([46,44,45,40,36]:List Int) y25.1) fun y27 =>
 some (y27,y25.2)) (
 ifB (pEq y15.1 6) (
 bindO (zAC N y15.2 10) fun y28 =>
 some ((pAdd .i64 48 y28.1),y28.2)) (
 bindO (zAC N y15.2 6) fun y29 =>
 some ((pAdd .i64 97 y29.1),y29.2))))))))
def zA7.l2 {R:Type} (N:Nat) (d:Int×(List Int×Int×Int×Int×Unit)×List Int×Unit) (kn:Int×(List Int×Int×Int×Int×Unit)×List Int×Unit->Option R) (kx:(List Int×Int×Int×Int×Unit)×List Int×Unit->Option R):Option R :=
 let x13:=d.1;
 let x14:=d.2.1;
 let x15:=d.2.2.1;
 ifB (pGt x13 0) (
 bindO (zC0 N x14) fun y16 =>
 ifB (pFit x15 [y16.1]) (
 kn ((pSub .i64 x13 1),y16.2,(pApp x15 [y16.1]),())) (
 none)) (
 kx (x14,x15,()))
def zA7 (N:Nat) (a0:List (Int)×Int×Int×Int×Unit) (a1:Int):Option (List Int×List Int×Int×Int×Int×Unit) :=
 loopP (zA7.l2 N) N (a1,a0,[],()) (
 fun d =>
 let x17:=d.1;
 let x18:=d.2.1;
 some (x18,x17))
def zCD (N:Nat) (a0:Int) (a1:Int):Option (Int) :=
 ifB (pLt a0 a1) (
 some a0) (
 some a1)
def zBV (N:Nat) (a0:Int) (a1:Int):Option (Int) :=
 ifB (pGt a0 a1) (
 some a0) (
 some a1)
def zBS (N:Nat) (a0:List (Int)×Int×Int×Int×Unit):Option ((List Int×Int×Int×Unit)×List Int×Int×Int×Int×Unit) :=
 bindO (zAC N a0 (pAdd .i64 14 (pMul .i64 2 a0.2.2.2.1))) fun y25 =>
 bindO (zA7 N y25.2 y25.1) fun y26 =>
 bindO (zBC N y26.2 50) fun y27 =>
 ifB y27.1 (
 bindO (zAC N y27.2 4) fun y28 =>
 bindO (zA7 N y28.2 (pAdd .i64 298 y28.1)) fun y29 =>
 bindO (zAC N y29.2 (pAdd .i64 (pLen y29.1) 1)) fun y30 =>
 bindO (zAC N y30.2 (pAdd .i64 (pLen y29.1) 1)) fun y31 =>
 bindO (zBC N y31.2 15) fun y32 =>
 ifB y32.1 (
 bindO (zAC N y32.2 3) fun y33 =>
 ifB (pEq y33.1 0) (
 bindO (zAC N y33.2 2) fun y34 =>
 bindO (idx [(-1),(pAdd .i64 (pLen y29.1) 1)] y34.1) fun y35 =>
 bindO (idx [(-1),(pAdd .i64 (pLen y29.1) 1)] y34.1) fun y36 =>
 some ((y29.1,(y36,(y31.1,()))),y34.2)) (
 ifB (pEq y33.1 1) (
 bindO (zAC N y33.2 2) fun y37 =>
 bindO (idx [(-1),(pAdd .i64 (pLen y29.1) 1)] y37.1) fun y38 =>
 bindO (idx [(-1),(pAdd .i64 (pLen y29.1) 1)] y37.1) fun y39 =>
 some ((y29.1,(y30.1,(y39,()))),y37.2)) (
 ifB (pFit y29.1 [55296]) (
 some (((pApp y29.1 [55296]),(y30.1,(y31.1,()))),y33.2)) (
 none)))) (
 some ((y29.1,(y30.1,(y31.1,()))),y32.2))) (
 bindO (zAC N y27.2 (pAdd .i64 (pLen y26.1) 1)) fun y40 =>
 bindO (zAC N y40.2 (pAdd .i64 (pLen y26.1) 1)) fun y41 =>
 bindO (zBC N y41.2 15) fun y42 =>
 ifB y42.1 (
 bindO (zAC N y42.2 3) fun y43 =>
 ifB (pEq y43.1 0) (
 bindO (zAC N y43.2 2) fun y44 =>
 bindO (idx [(-1),(pAdd .i64 (pLen y26.1) 1)] y44.1) fun y45 =>
 bindO (idx [(-1),(pAdd .i64 (pLen y26.1) 1)] y44.1) fun y46 =>
 some ((y26.1,(y46,(y41.1,()))),y44.2)) (
 ifB (pEq y43.1 1) (
 bindO (zAC N y43.2 2) fun y47 =>
 bindO (idx [(-1),(pAdd .i64 (pLen y26.1) 1)] y47.1) fun y48 =>
 bindO (idx [(-1),(pAdd .i64 (pLen y26.1) 1)] y47.1) fun y49 =>
 some ((y26.1,(y40.1,(y49,()))),y47.2)) (
 ifB (pFit y26.1 [55296]) (
 some (((pApp y26.1 [55296]),(y40.1,(y41.1,()))),y43.2)) (
 none)))) (
 some ((y26.1,(y40.1,(y41.1,()))),y42.2)))
def zA5.l5 {R:Type} (N:Nat) (d:Int×Bool×ByteArray×Unit) (kn:Int×Bool×ByteArray×Unit->Option R) (kx:Bool×ByteArray×Unit->Option R):Option R :=
 let x10:=d.1;
 let x11:=d.2.1;
 let x12:=d.2.2.1;
 ifB (pNe x10 0) (
 ifB (pEq 10 0) (
 none) (
 ifB (pLt (pRem x10 10) 0) (
 ifB (pFitS (bytesOf [(pConv .u8 (pAdd .i64 48 (pSub .i64 0 (pRem x10 10))))]) x12) (
 ifB (pEq 10 0) (
 none) (
 kn ((pQuo .i64 x10 10),x11,(pCat (bytesOf [(pConv .u8 (pAdd .i64 48 (pSub .i64 0 (pRem x10 10))))]) x12),()))) (
 none)) (
 ifB (pFitS (bytesOf [(pConv .u8 (pAdd .i64 48 (pRem x10 10)))]) x12) (
 ifB (pEq 10 0) (
 none) (
 kn ((pQuo .i64 x10 10),x11,(pCat (bytesOf [(pConv .u8 (pAdd .i64 48 (pRem x10 10)))]) x12),()))) (
 none)))) (
 kx (x11,x12,()))
def zA5 (N:Nat) (a0:Int):Option (ByteArray) :=
 ifB (pEq a0 0) (
 some (ByteArray.mk #[48])) (
 loopP (zA5.l5 N) N (a0,(pLt a0 0),(ByteArray.mk #[]),()) (
 fun d =>
 let x13:=d.1;
 let x14:=d.2.1;
 ifB x13 (
 ifB (pFitS (ByteArray.mk #[45]) x14) (
 some (pCat (ByteArray.mk #[45]) x14)) (
 none)) (
 some x14)))
def zCN (N:Nat) (a0:Int):Option (Bool) :=
 bindO (zBA N a0 2 80) fun y1 =>
 some y1
def zEK (N:Nat) (a0:List (Int)) (a1:List (Int)×Int×Int×Unit) (a2:Int):Option (Bool) :=
 bindO (zDL N a0) fun y5 =>
 bindO (
 ifB y5 (
 bindO (zEH N a1) fun y7 =>
 some y7) (
 some false)) fun y6 =>
 bindO (
 ifB y6 (
 bindO (zCN N a2) fun y9 =>
 some y9) (
 some false)) fun y8 =>
 some y8
def zDK (N:Nat) (a0:Int×Int×Int×(List ((List (Int)×Int×Unit)×Int×Int×Unit))×Bool×(List (Int×Int×Unit))×Unit):Option (Int×Int×Int×(List ((List Int×Int×Unit)×Int×Int×Unit))×Bool×(List (Int×Int×Unit))×Unit) :=
 some (a0.1,((pAdd .i64 a0.2.1 1),(0,(a0.2.2.2.1,(false,a0.2.2.2.2.2)))))
def zBT (N:Nat) (a0:Int):Option (Bool) :=
 bindO (
 ifB (pLt a0 32) (
 some true) (
 some (pEq a0 127))) fun y1 =>
 some y1
def zFK (N:Nat) (a0:Int):Option (List Int) :=
 bindO (zBT N a0) fun y1 =>
 ifB y1 (
 some [94,(pXor .i64 a0 64)]) (
 some [a0])
def zAW.l6 {R:Type} (N:Nat) (d:Int×Int×Int×(List (Int×Int×Unit×Unit))×Unit) (kn:Int×Int×Int×(List (Int×Int×Unit×Unit))×Unit->Option R) (kx:(Unit) ⊕ (Int×Unit)->Option R):Option R :=
 let x26:=d.1;
 let x27:=d.2.1;
 let x28:=d.2.2.1;
 let x29:=d.2.2.2.1;
 ifB (pLt x28 x27) (
 bindO (idx x29 x28) fun y30 =>
 bindO (idx x29 x28) fun y31 =>
 bindO (zBA N x26 y31.1 y31.2.1) fun y32 =>
 ifB y32 (
 kx (.inr (2,()))) (
 kn (x26,x27,(pAdd .i64 x28 1),x29,()))) (
 kx (.inl (())))
def zAW (N:Nat) (a0:Int):Option (Int) :=
 bindO (zCE N a0) fun y22 =>
 bindO (
 ifB (pNot y22) (
 some true) (
 bindO (zBA N a0 768 879) fun y24 =>
 some y24)) fun y23 =>
 ifB y23 (
 some 0) (
 bindO (zBT N a0) fun y25 =>
 ifB y25 (
 some 2) (
 loopP (zAW.l6 N) N (a0,(pLen [(4352,(4447,((),()))),(11904,(42191,((),()))),(44032,(55203,((),()))),(63744,(64255,((),()))),(65281,(65376,((),()))),(127744,(129791,((),())))]),0,[(4352,(4447,((),()))),(11904,(42191,((),()))),(44032,(55203,((),()))),(63744,(64255,((),()))),(65281,(65376,((),()))),(127744,(129791,((),())))],()) (
 onSum (fun d =>
 some 1) (
 fun d =>
 let x33:=d.1;
 some x33))))
def zCW.l3 {R:Type} (N:Nat) (d:Int×Int×Int×(Int×Int×Int×(List ((List Int×Int×Unit)×Int×Int×Unit))×Bool×(List (Int×Int×Unit))×Unit)×List Int×Unit) (kn:Int×Int×Int×(Int×Int×Int×(List ((List Int×Int×Unit)×Int×Int×Unit))×Bool×(List (Int×Int×Unit))×Unit)×List Int×Unit->Option R) (kx:(Int×Int×Int×(List ((List Int×Int×Unit)×Int×Int×Unit))×Bool×(List (Int×Int×Unit))×Unit)×Unit->Option R):Option R :=
 let x45:=d.1;
 let x46:=d.2.1;
 let x47:=d.2.2.1;
 let x48:=d.2.2.2.1;
 let x49:=d.2.2.2.2.1;
 ifB (pLt x47 x46) (
 bindO (A:=Int×Int×Int×(Int×Int×Int×(List ((List Int×Int×Unit)×Int×Int×Unit))×Bool×(List (Int×Int×Unit))×Unit)×List Int×Unit) (
 bindO (idx x49 x47) fun y50 =>
 bindO (idx x49 x47) fun y51 =>
 bindO (zAW N y51) fun y52 =>
 ifB (pEq y52 0) (
 ifB x48.2.2.2.2.1 (
 bindO (idx x48.2.2.2.1 (pSub .i64 (pLen x48.2.2.2.1) 1)) fun y53 =>
 bindO (idx x48.2.2.2.1 (pSub .i64 (pLen x48.2.2.2.1) 1)) fun y54 =>
 bindO (idx x48.2.2.2.1 (pSub .i64 (pLen x48.2.2.2.1) 1)) fun y55 =>
 ifB (pLt (pLen y55.1.1) 4) (
 bindO (idx x48.2.2.2.1 (pSub .i64 (pLen x48.2.2.2.1) 1)) fun y56 =>
 bindO (idx x48.2.2.2.1 (pSub .i64 (pLen x48.2.2.2.1) 1)) fun y57 =>
 ifB (pFit y57.1.1 [y51]) (
 bindO (idx x48.2.2.2.1 (pSub .i64 (pLen x48.2.2.2.1) 1)) fun y58 =>
 ifB (pEq (pSub .i64 (pLen x48.2.2.2.1) 1) (pSub .i64 (pLen x48.2.2.2.1) 1)) (
 some (x45,x46,x47,(x48.1,(x48.2.1,(x48.2.2.1,((pSet x48.2.2.2.1 (pSub .i64 (pLen x48.2.2.2.1) 1) (((pApp y57.1.1 [y51]),y58.1.2),y58.2)),x48.2.2.2.2)))),x49,())) (
 none)) (
 none)) (
 some (x45,x46,x47,x48,x49,()))) (
 some (x45,x46,x47,x48,x49,()))) (
 ifB (pLt (pSub .i64 x48.1 x48.2.2.1) y52) (
 bindO (zDK N x48) fun y59 =>
 ifB (pFit y59.2.2.2.1 [(([y51],(x45,())),(y59.2.1,(y59.2.2.1,())))]) (
 some (x45,x46,x47,(y59.1,(y59.2.1,((pAdd .i64 y59.2.2.1 y52),((pApp y59.2.2.2.1 [(([y51],(x45,())),(y59.2.1,(y59.2.2.1,())))]),(true,y59.2.2.2.2.2))))),x49,())) (
 none)) (
 ifB (pFit x48.2.2.2.1 [(([y51],(x45,())),(x48.2.1,(x48.2.2.1,())))]) (
 some (x45,x46,x47,(x48.1,(x48.2.1,((pAdd .i64 x48.2.2.1 y52),((pApp x48.2.2.2.1 [(([y51],(x45,())),(x48.2.1,(x48.2.2.1,())))]),(true,x48.2.2.2.2.2))))),x49,())) (
 none)))) (
 fun d =>
 let x60:=d.1;
 let x61:=d.2.1;
 let x62:=d.2.2.1;
 let x63:=d.2.2.2.1;
 let x64:=d.2.2.2.2.1;
 kn (x60,x61,(pAdd .i64 x62 1),x63,x64,()))) (
 kx (x48,()))
def zCW (N:Nat) (a0:Int×Int×Int×(List ((List (Int)×Int×Unit)×Int×Int×Unit))×Bool×(List (Int×Int×Unit))×Unit) (a1:Int) (a2:Int):Option (Int×Int×Int×(List ((List Int×Int×Unit)×Int×Int×Unit))×Bool×(List (Int×Int×Unit))×Unit) :=
 ifB (pEq a1 10) (
 bindO (zDK N a0) fun y43 =>
 some y43) (
 bindO (zFK N a1) fun y44 =>
 loopP (zCW.l3 N) N (a2,(pLen y44),0,a0,y44,()) (
 fun d =>
 let x65:=d.1;
 some x65))
def zEZ (N:Nat) (a0:List (Int)×Int×Int×Unit):Option (Int×Int) :=
 some ((pMin a0.2.2.1 a0.2.1),(pMax a0.2.2.1 a0.2.1))
def zDJ (N:Nat) (a0:Int×Int×Int×(List ((List (Int)×Int×Unit)×Int×Int×Unit))×Bool×(List (Int×Int×Unit))×Unit):Option (Int×Int×Unit) :=
 ifB (pEq a0.2.2.1 a0.1) (
 some ((pAdd .i64 a0.2.1 1),(0,()))) (
 some (a0.2.1,(a0.2.2.1,())))
end Go.AE.F
end
