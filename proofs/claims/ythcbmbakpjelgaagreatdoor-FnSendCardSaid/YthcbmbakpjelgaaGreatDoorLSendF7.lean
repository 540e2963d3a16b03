/- Functions as they are printed out of the program: plain Lean, nothing is claimed here. -/
import Derived.Test.YthcbmbakpjelgaaGreatDoorLSendF6
noncomputable section
namespace Go.AE.F
open Go.AE
def zDC.l9 {R:Type} (N:Nat) (d:Int×Int×Int×(List ((List Int×Int×Unit)×Int×Int×Unit))×Int×Int×((Int×Int×(List (List Int×Int×Unit))×Int×Int×Bool×Int×Unit)×Int×Int×Unit)×(Int×Int×(List (List Int×Int×Unit))×Int×Int×Bool×Int×Unit)×(Int×Int×Unit)×Unit) (kn:Int×Int×Int×(List ((List Int×Int×Unit)×Int×Int×Unit))×Int×Int×((Int×Int×(List (List Int×Int×Unit))×Int×Int×Bool×Int×Unit)×Int×Int×Unit)×(Int×Int×(List (List Int×Int×Unit))×Int×Int×Bool×Int×Unit)×(Int×Int×Unit)×Unit->Option R) (kx:Int×((Int×Int×(List (List Int×Int×Unit))×Int×Int×Bool×Int×Unit)×Int×Int×Unit)×(Int×Int×(List (List Int×Int×Unit))×Int×Int×Bool×Int×Unit)×(Int×Int×Unit)×Unit->Option R):Option R :=
 let x76:=d.1;
 let x77:=d.2.1;
 let x78:=d.2.2.1;
 let x79:=d.2.2.2.1;
 let x80:=d.2.2.2.2.1;
 let x81:=d.2.2.2.2.2.1;
 let x82:=d.2.2.2.2.2.2.1;
 let x83:=d.2.2.2.2.2.2.2.1;
 let x84:=d.2.2.2.2.2.2.2.2.1;
 ifB (pLt x81 x80) (
 bindO (A:=Int×Int×Int×(List ((List Int×Int×Unit)×Int×Int×Unit))×Int×Int×((Int×Int×(List (List Int×Int×Unit))×Int×Int×Bool×Int×Unit)×Int×Int×Unit)×(Int×Int×(List (List Int×Int×Unit))×Int×Int×Bool×Int×Unit)×(Int×Int×Unit)×Unit) (
 bindO (idx x79 x81) fun y85 =>
 bindO (zBA N y85.2.1 x78 (pSub .i64 (pAdd .i64 x78 x76) 1)) fun y86 =>
 ifB (pNot y86) (
 some (x76,x77,x78,x79,x80,x81,x82,x83,x84,())) (
 bindO (idx x83.2.2.1 (pAdd .i64 (pMul .i64 (pSub .i64 y85.2.1 x78) x77) y85.2.2.1)) fun y87 =>
 bindO (idx x83.2.2.1 (pAdd .i64 (pMul .i64 (pSub .i64 y85.2.1 x78) x77) y85.2.2.1)) fun y88 =>
 bindO (idx (pSet x83.2.2.1 (pAdd .i64 (pMul .i64 (pSub .i64 y85.2.1 x78) x77) y85.2.2.1) y85.1) (pAdd .i64 (pMul .i64 (pSub .i64 y85.2.1 x78) x77) y85.2.2.1)) fun y89 =>
 bindO (idx (pSet x83.2.2.1 (pAdd .i64 (pMul .i64 (pSub .i64 y85.2.1 x78) x77) y85.2.2.1) y85.1) (pAdd .i64 (pMul .i64 (pSub .i64 y85.2.1 x78) x77) y85.2.2.1)) fun y90 =>
 bindO (zBP N y90) fun y91 =>
 ifB y91 (
 bindO (idx (pSet x83.2.2.1 (pAdd .i64 (pMul .i64 (pSub .i64 y85.2.1 x78) x77) y85.2.2.1) y85.1) (pAdd .i64 (pAdd .i64 (pMul .i64 (pSub .i64 y85.2.1 x78) x77) y85.2.2.1) 1)) fun y92 =>
 bindO (idx (pSet x83.2.2.1 (pAdd .i64 (pMul .i64 (pSub .i64 y85.2.1 x78) x77) y85.2.2.1) y85.1) (pAdd .i64 (pAdd .i64 (pMul .i64 (pSub .i64 y85.2.1 x78) x77) y85.2.2.1) 1)) fun y93 =>
 some (x76,x77,x78,x79,x80,x81,x82,(x83.1,(x83.2.1,((pSet (pSet x83.2.2.1 (pAdd .i64 (pMul .i64 (pSub .i64 y85.2.1 x78) x77) y85.2.2.1) y85.1) (pAdd .i64 (pAdd .i64 (pMul .i64 (pSub .i64 y85.2.1 x78) x77) y85.2.2.1) 1) ([],(y85.1.2.1,()))),x83.2.2.2))),x84,())) (
 some (x76,x77,x78,x79,x80,x81,x82,(x83.1,(x83.2.1,((pSet x83.2.2.1 (pAdd .i64 (pMul .i64 (pSub .i64 y85.2.1 x78) x77) y85.2.2.1) y85.1),x83.2.2.2))),x84,())))) (
 fun d =>
 let x94:=d.1;
 let x95:=d.2.1;
 let x96:=d.2.2.1;
 let x97:=d.2.2.2.1;
 let x98:=d.2.2.2.2.1;
 let x99:=d.2.2.2.2.2.1;
 let x100:=d.2.2.2.2.2.2.1;
 let x101:=d.2.2.2.2.2.2.2.1;
 let x102:=d.2.2.2.2.2.2.2.2.1;
 kn (x94,x95,x96,x97,x98,(pAdd .i64 x99 1),x100,x101,x102,()))) (
 kx (x78,x82,x83,x84,()))
def zDC (N:Nat) (a0:List (Int)) (a1:List (Int)×Int×Int×Unit) (a2:Bool) (a3:Int) (a4:Int):Option ((Int×Int×(List (List Int×Int×Unit))×Int×Int×Bool×Int×Unit)×Int×Int×Unit) :=
 bindO (zG6 N (pLen a0)) fun y69 =>
 ifB y69 (
 some ((0,(0,([],(0,(0,(false,(0,()))))))),(0,(2,())))) (
 bindO (zEK N a0 a1 a4) fun y70 =>
 bindO (
 ifB (pNot y70) (
 some true) (
 bindO (zCM N a3) fun y72 =>
 some (pNot y72))) fun y71 =>
 ifB y71 (
 some ((0,(0,([],(0,(0,(false,(0,()))))))),(0,(1,())))) (
 bindO (zDD N a0 a1 a2 a4) fun y73 =>
 bindO (zEW N a3 a4) fun y74 =>
 bindO (idx y73.2.2.2.2.2.1 a1.2.1) fun y75 =>
 loopP (zDC.l9 N) N (a3,a4,(pMax (pAdd .i64 (pSub .i64 y75.1 a3) 1) 0),y73.2.2.2.1,(pLen y73.2.2.2.1),0,((0,(0,([],(0,(0,(false,(0,()))))))),(0,(0,()))),y74,y75,()) (
 fun d =>
 let x103:=d.1;
 let x104:=d.2.1;
 let x105:=d.2.2.1;
 let x106:=d.2.2.2.1;
 some ((x105.1,(x105.2.1,(x105.2.2.1,((pSub .i64 x106.1 x103),(x106.2.1,x105.2.2.2.2.2))))),(x103,(0,()))))))
def zCI (N:Nat) (a0:Int×Int×(List (List (Int)×Int×Unit))×Int×Int×Bool×Int×Unit) (a1:Int×Int×(List (List (Int)×Int×Unit))×Int×Int×Bool×Int×Unit):Option (Bool) :=
 bindO (
 ifB (pEq a0.1 a1.1) (
 some (pEq a0.2.1 a1.2.1)) (
 some false)) fun y7 =>
 bindO (
 ifB y7 (
 bindO (zC8 N a0.2.2.1 a1.2.2.1) fun y9 =>
 some y9) (
 some false)) fun y8 =>
 bindO (
 ifB y8 (
 some (pEq a0.2.2.2.1 a1.2.2.2.1)) (
 some false)) fun y10 =>
 bindO (
 ifB y10 (
 some (pEq a0.2.2.2.2.1 a1.2.2.2.2.1)) (
 some false)) fun y11 =>
 bindO (
 ifB y11 (
 some (pBeq a0.2.2.2.2.2.1 a1.2.2.2.2.2.1)) (
 some false)) fun y12 =>
 bindO (
 ifB y12 (
 some (pEq a0.2.2.2.2.2.2.1 a1.2.2.2.2.2.2.1)) (
 some false)) fun y13 =>
 some y13
def zBJ (N:Nat) (a0:List (Int)×Int×Int×Int×Unit):Option ((List Int×Int×Int×Unit)×List Int×Int×Int×Int×Unit) :=
 bindO (zAC N a0 6) fun y3 =>
 bindO (zA7 N y3.2 y3.1) fun y4 =>
 bindO (zAC N y4.2 (pAdd .i64 (pLen y4.1) 1)) fun y5 =>
 some ((y4.1,(y5.1,(0,()))),y5.2)
def zA8.l2 {R:Type} (N:Nat) (d:Int×ByteArray×(List Int×Int×Int×Int×Unit)×Unit) (kn:Int×ByteArray×(List Int×Int×Int×Int×Unit)×Unit->Option R) (kx:ByteArray×(List Int×Int×Int×Int×Unit)×Unit->Option R):Option R :=
 let x46:=d.1;
 let x47:=d.2.1;
 let x48:=d.2.2.1;
 ifB (pGt x46 0) (
 bindO (A:=Int×ByteArray×(List Int×Int×Int×Int×Unit)×Unit) (
 bindO (zAC N x48 12) fun y49 =>
 ifB (pEq y49.1 0) (
 ifB (pFitS x47 (ByteArray.mk #[27,91])) (
 bindO (zAC N y49.2 5) fun y50 =>
 bindO (zA5 N y50.1) fun y51 =>
 ifB (pFitS (pCat x47 (ByteArray.mk #[27,91])) y51) (
 bindO (zBZ N y50.2 [(ByteArray.mk #[65]),(ByteArray.mk #[66]),(ByteArray.mk #[67]),(ByteArray.mk #[68]),(ByteArray.mk #[74]),(ByteArray.mk #[75]),(ByteArray.mk #[109]),(ByteArray.mk #[109]),(ByteArray.mk #[120])]) fun y52 =>
 ifB (pFitS (pCat (pCat x47 (ByteArray.mk #[27,91])) y51) y52.1) (
 some (x46,(pCat (pCat (pCat x47 (ByteArray.mk #[27,91])) y51) y52.1),y52.2,())) (
 none)) (
 none)) (
 none)) (
 ifB (pEq y49.1 1) (
 ifB (pFitS x47 (ByteArray.mk #[27,91])) (
 bindO (zAC N y49.2 6) fun y53 =>
 bindO (zA5 N y53.1) fun y54 =>
 ifB (pFitS (pCat x47 (ByteArray.mk #[27,91])) y54) (
 ifB (pFitS (pCat (pCat x47 (ByteArray.mk #[27,91])) y54) (ByteArray.mk #[59])) (
 bindO (zAC N y53.2 9) fun y55 =>
 bindO (zA5 N y55.1) fun y56 =>
 ifB (pFitS (pCat (pCat (pCat x47 (ByteArray.mk #[27,91])) y54) (ByteArray.mk #[59])) y56) (
 ifB (pFitS (pCat (pCat (pCat (pCat x47 (ByteArray.mk #[27,91])) y54) (ByteArray.mk #[59])) y56) (ByteArray.mk #[72])) (
 some (x46,(pCat (pCat (pCat (pCat (pCat x47 (ByteArray.mk #[27,91])) y54) (ByteArray.mk #[59])) y56) (ByteArray.mk #[72])),y55.2,())) (
 none)) (
 none)) (
 none)) (
 none)) (
 none)) (
 ifB (pEq y49.1 2) (
 bindO (zBZ N y49.2 [(ByteArray.mk #[13]),(ByteArray.mk #[10]),(ByteArray.mk #[8]),(ByteArray.mk #[13,10]),(ByteArray.mk #[27,120]),(ByteArray.mk #[27,91]),(ByteArray.mk #[27,91,59,72]),(ByteArray.mk #[27,91,49,50,51,52,53,65]),(ByteArray.mk #[127]),(ByteArray.mk #[0])]) fun y57 =>
 ifB (pFitS x47 y57.1) (
 some (x46,(pCat x47 y57.1),y57.2,())) (
 none)) (
 ifB (pEq y49.1 3) (
 bindO (zAC N y49.2 20) fun y58 =>
 bindO (zAU N [(pAdd .i64 19968 y58.1)]) fun y59 =>
 ifB (pFitS x47 y59) (
 some (x46,(pCat x47 y59),y58.2,())) (
 none)) (
 ifB (pEq y49.1 4) (
 bindO (zAC N y49.2 9) fun y60 =>
 bindO (zAU N [(pAdd .i64 768 y60.1)]) fun y61 =>
 ifB (pFitS x47 y61) (
 some (x46,(pCat x47 y61),y60.2,())) (
 none)) (
 bindO (zAC N y49.2 26) fun y62 =>
 bindO (zAU N [(pAdd .i64 97 y62.1)]) fun y63 =>
 ifB (pFitS x47 y63) (
 some (x46,(pCat x47 y63),y62.2,())) (
 none))))))) (
 fun d =>
 let x64:=d.1;
 let x65:=d.2.1;
 let x66:=d.2.2.1;
 kn ((pSub .i64 x64 1),x65,x66,()))) (
 kx (x47,x48,()))
def zA8 (N:Nat) (a0:List (Int)×Int×Int×Int×Unit) (a1:Int):Option (ByteArray×List Int×Int×Int×Int×Unit) :=
 loopP (zA8.l2 N) N (a1,(ByteArray.mk #[]),a0,()) (
 fun d =>
 let x67:=d.1;
 let x68:=d.2.1;
 some (x67,x68))
def zB4.l3 {R:Type} (N:Nat) (d:Int×(Int×Int×(List (List Int×Int×Unit))×Int×Int×Bool×Int×Unit)×(Int×Int×(List (List Int×Int×Unit))×Int×Int×Bool×Int×Unit)×(List (List Int×Int×Unit))×Unit) (kn:Int×(Int×Int×(List (List Int×Int×Unit))×Int×Int×Bool×Int×Unit)×(Int×Int×(List (List Int×Int×Unit))×Int×Int×Bool×Int×Unit)×(List (List Int×Int×Unit))×Unit->Option R) (kx:(Int×Int×(List (List Int×Int×Unit))×Int×Int×Bool×Int×Unit)×(Int×Int×(List (List Int×Int×Unit))×Int×Int×Bool×Int×Unit)×(List (List Int×Int×Unit))×Unit->Option R):Option R :=
 let x20:=d.1;
 let x21:=d.2.1;
 let x22:=d.2.2.1;
 let x23:=d.2.2.2.1;
 ifB (pLt x20 (pLen x21.2.2.1)) (
 bindO (idx x21.2.2.1 x20) fun y24 =>
 bindO (idx x21.2.2.1 x20) fun y25 =>
 bindO (zC1 N y24.1) fun y26 =>
 ifB (pFit x23 [(y26,(y25.2.1,()))]) (
 kn ((pAdd .i64 x20 1),x21,x22,(pApp x23 [(y26,(y25.2.1,()))]),())) (
 none)) (
 kx (x21,x22,x23,()))
def zB4 (N:Nat) (a0:Int×Int×(List (List (Int)×Int×Unit))×Int×Int×Bool×Int×Unit):Option (Int×Int×(List (List Int×Int×Unit))×Int×Int×Bool×Int×Unit) :=
 loopP (zB4.l3 N) N (0,a0,(0,(0,([],(0,(0,(false,(0,()))))))),[],()) (
 fun d =>
 let x27:=d.1;
 let x28:=d.2.1;
 let x29:=d.2.2.1;
 some (x27.1,(x27.2.1,(x29,x27.2.2.2))))
def zB7.l4 {R:Type} (N:Nat) (d:List Int×Int×Int×List Int×Unit) (kn:List Int×Int×Int×List Int×Unit->Option R) (kx:List Int×Unit->Option R):Option R :=
 let x33:=d.1;
 let x34:=d.2.1;
 let x35:=d.2.2.1;
 let x36:=d.2.2.2.1;
 ifB (pLt x35 (pLen x33)) (
 bindO (A:=List Int×Int×Int×List Int×Unit) (
 bindO (idx x33 x35) fun y37 =>
 ifB (pEq y37 59) (
 ifB (pFit x36 [0]) (
 some (x33,0,x35,(pApp x36 [0]),())) (
 none)) (
 bindO (idx x36 (pSub .i64 (pLen x36) 1)) fun y38 =>
 bindO (idx x36 (pSub .i64 (pLen x36) 1)) fun y39 =>
 bindO (idx x33 x35) fun y40 =>
 bindO (idx x36 (pSub .i64 (pLen x36) 1)) fun y41 =>
 bindO (idx x36 (pSub .i64 (pLen x36) 1)) fun y42 =>
 ifB (pGt (pAdd .i64 x34 1) 4) (
 bindO (idx (pSet x36 (pSub .i64 (pLen x36) 1) (pSub .i64 (pAdd .i64 (pMul .i64 10 y39) y40) 48)) (pSub .i64 (pLen x36) 1)) fun y43 =>
 bindO (idx (pSet x36 (pSub .i64 (pLen x36) 1) (pSub .i64 (pAdd .i64 (pMul .i64 10 y39) y40) 48)) (pSub .i64 (pLen x36) 1)) fun y44 =>
 some (x33,(pAdd .i64 x34 1),x35,(pSet (pSet x36 (pSub .i64 (pLen x36) 1) (pSub .i64 (pAdd .i64 (pMul .i64 10 y39) y40) 48)) (pSub .i64 (pLen x36) 1) 0),())) (
 some (x33,(pAdd .i64 x34 1),x35,(pSet x36 (pSub .i64 (pLen x36) 1) (pSub .i64 (pAdd .i64 (pMul .i64 10 y39) y40) 48)),())))) (
 fun d =>
 let x45:=d.1;
 let x46:=d.2.1;
 let x47:=d.2.2.1;
 let x48:=d.2.2.2.1;
 kn (x45,x46,(pAdd .i64 x47 1),x48,()))) (
 kx (x36,()))
def zB7 (N:Nat) (a0:List (Int)):Option (List Int) :=
 loopP (zB7.l4 N) N (a0,0,0,[0],()) (
 fun d =>
 let x49:=d.1;
 ifB (pFit x49 [0]) (
 some (pApp x49 [0])) (
 none))
def zB8 (N:Nat) (a0:(Int×Int×(List (List (Int)×Int×Unit))×Int×Int×Bool×Int×Unit)×Unit) (a1:Int):Option ((Int×Int×(List (List Int×Int×Unit))×Int×Int×Bool×Int×Unit)×Unit) :=
 bindO (zCA N a0.1 a1) fun y13 =>
 ifB y13 (
 bindO (idx a0.1.2.2.1 (pSub .i64 a1 1)) fun y14 =>
 bindO (idx a0.1.2.2.1 (pSub .i64 a1 1)) fun y15 =>
 bindO (idx (pSet a0.1.2.2.1 (pSub .i64 a1 1) ([],y15.2)) a1) fun y16 =>
 bindO (idx (pSet a0.1.2.2.1 (pSub .i64 a1 1) ([],y15.2)) a1) fun y17 =>
 bindO (zC2 N y17) fun y18 =>
 ifB y18 (
 bindO (idx (pSet a0.1.2.2.1 (pSub .i64 a1 1) ([],y15.2)) (pAdd .i64 a1 1)) fun y19 =>
 bindO (idx (pSet a0.1.2.2.1 (pSub .i64 a1 1) ([],y15.2)) (pAdd .i64 a1 1)) fun y20 =>
 some ((a0.1.1,(a0.1.2.1,((pSet (pSet a0.1.2.2.1 (pSub .i64 a1 1) ([],y15.2)) (pAdd .i64 a1 1) ([],y20.2)),a0.1.2.2.2))),a0.2)) (
 some ((a0.1.1,(a0.1.2.1,((pSet a0.1.2.2.1 (pSub .i64 a1 1) ([],y15.2)),a0.1.2.2.2))),a0.2))) (
 bindO (idx a0.1.2.2.1 a1) fun y21 =>
 bindO (idx a0.1.2.2.1 a1) fun y22 =>
 bindO (zC2 N y22) fun y23 =>
 ifB y23 (
 bindO (idx a0.1.2.2.1 (pAdd .i64 a1 1)) fun y24 =>
 bindO (idx a0.1.2.2.1 (pAdd .i64 a1 1)) fun y25 =>
 some ((a0.1.1,(a0.1.2.1,((pSet a0.1.2.2.1 (pAdd .i64 a1 1) ([],y25.2)),a0.1.2.2.2))),a0.2)) (
 some a0))
def zAD.l2 {R:Type} (N:Nat) (d:Int×Int×((Int×Int×(List (List Int×Int×Unit))×Int×Int×Bool×Int×Unit)×Unit)×Unit) (kn:Int×Int×((Int×Int×(List (List Int×Int×Unit))×Int×Int×Bool×Int×Unit)×Unit)×Unit->Option R) (kx:((Int×Int×(List (List Int×Int×Unit))×Int×Int×Bool×Int×Unit)×Unit)×Unit->Option R):Option R :=
 let x15:=d.1;
 let x16:=d.2.1;
 let x17:=d.2.2.1;
 ifB (pLt x16 x15) (
 bindO (idx x17.1.2.2.1 x16) fun y18 =>
 bindO (idx x17.1.2.2.1 x16) fun y19 =>
 kn (x15,(pAdd .i64 x16 1),((x17.1.1,(x17.1.2.1,((pSet x17.1.2.2.1 x16 ([],(0,()))),x17.1.2.2.2))),x17.2),())) (
 kx (x17,()))
def zAD (N:Nat) (a0:(Int×Int×(List (List (Int)×Int×Unit))×Int×Int×Bool×Int×Unit)×Unit) (a1:Int):Option ((Int×Int×(List (List Int×Int×Unit))×Int×Int×Bool×Int×Unit)×Unit) :=
 bindO (zB8 N a0 (pAdd .i64 (pMul .i64 a0.1.2.2.2.1 a0.1.2.1) a0.1.2.2.2.2.1)) fun y14 =>
 loopP (zAD.l2 N) N (a1,(pAdd .i64 (pMul .i64 a0.1.2.2.2.1 a0.1.2.1) a0.1.2.2.2.2.1),y14,()) (
 fun d =>
 let x20:=d.1;
 some x20)
def zBH (N:Nat) (a0:(Int×Int×(List (List (Int)×Int×Unit))×Int×Int×Bool×Int×Unit)×Unit) (a1:List (Int)) (a2:Int):Option ((Int×Int×(List (List Int×Int×Unit))×Int×Int×Bool×Int×Unit)×Unit) :=
 bindO (zB7 N a1) fun y19 =>
 bindO (idx y19 0) fun y20 =>
 bindO (idx y19 0) fun y21 =>
 bindO (zBV N 1 y21) fun y22 =>
 ifB (pEq a2 109) (
 bindO (idx y19 0) fun y23 =>
 bindO (idx y19 0) fun y24 =>
 ifB (pLe y24 3) (
 bindO (idx y19 0) fun y25 =>
 bindO (idx y19 0) fun y26 =>
 some ((a0.1.1,(a0.1.2.1,(a0.1.2.2.1,(a0.1.2.2.2.1,(a0.1.2.2.2.2.1,(a0.1.2.2.2.2.2.1,(y26,a0.1.2.2.2.2.2.2.2))))))),a0.2)) (
 some a0)) (
 ifB (pEq a2 65) (
 bindO (zBV N 0 (pSub .i64 a0.1.2.2.2.1 y22)) fun y27 =>
 some ((a0.1.1,(a0.1.2.1,(a0.1.2.2.1,(y27,(a0.1.2.2.2.2.1,(false,a0.1.2.2.2.2.2.2)))))),a0.2)) (
 ifB (pEq a2 66) (
 bindO (zCD N (pSub .i64 a0.1.1 1) (pAdd .i64 a0.1.2.2.2.1 y22)) fun y28 =>
 some ((a0.1.1,(a0.1.2.1,(a0.1.2.2.1,(y28,(a0.1.2.2.2.2.1,(false,a0.1.2.2.2.2.2.2)))))),a0.2)) (
 ifB (pEq a2 67) (
 bindO (zCD N (pSub .i64 a0.1.2.1 1) (pAdd .i64 a0.1.2.2.2.2.1 y22)) fun y29 =>
 some ((a0.1.1,(a0.1.2.1,(a0.1.2.2.1,(a0.1.2.2.2.1,(y29,(false,a0.1.2.2.2.2.2.2)))))),a0.2)) (
 ifB (pEq a2 68) (
 bindO (zBV N 0 (pSub .i64 a0.1.2.2.2.2.1 y22)) fun y30 =>
 some ((a0.1.1,(a0.1.2.1,(a0.1.2.2.1,(a0.1.2.2.2.1,(y30,(false,a0.1.2.2.2.2.2.2)))))),a0.2)) (
 ifB (pEq a2 72) (
 bindO (zCD N a0.1.1 y22) fun y31 =>
 bindO (idx y19 1) fun y32 =>
 bindO (idx y19 1) fun y33 =>
 bindO (zBV N 1 y33) fun y34 =>
 bindO (zCD N a0.1.2.1 y34) fun y35 =>
 some ((a0.1.1,(a0.1.2.1,(a0.1.2.2.1,((pSub .i64 y31 1),((pSub .i64 y35 1),(false,a0.1.2.2.2.2.2.2)))))),a0.2)) (
 ifB (pEq a2 74) (
 bindO (zAD N a0 (pMul .i64 a0.1.1 a0.1.2.1)) fun y36 =>
 some ((y36.1.1,(y36.1.2.1,(y36.1.2.2.1,(y36.1.2.2.2.1,(y36.1.2.2.2.2.1,(false,y36.1.2.2.2.2.2.2)))))),y36.2)) (
 ifB (pEq a2 75) (
 bindO (zAD N a0 (pMul .i64 (pAdd .i64 a0.1.2.2.2.1 1) a0.1.2.1)) fun y37 =>
 some ((y37.1.1,(y37.1.2.1,(y37.1.2.2.1,(y37.1.2.2.2.1,(y37.1.2.2.2.2.1,(false,y37.1.2.2.2.2.2.2)))))),y37.2)) (
 some a0))))))))
def zBK (N:Nat) (a0:(Int×Int×(List (List (Int)×Int×Unit))×Int×Int×Bool×Int×Unit)×Unit):Option ((Int×Int×(List (List Int×Int×Unit))×Int×Int×Bool×Int×Unit)×Unit) :=
 ifB (pLt a0.1.2.2.2.1 (pSub .i64 a0.1.1 1)) (
 some ((a0.1.1,(a0.1.2.1,(a0.1.2.2.1,((pAdd .i64 a0.1.2.2.2.1 1),(a0.1.2.2.2.2.1,(false,a0.1.2.2.2.2.2.2)))))),a0.2)) (
 ifB (pLe 0 a0.1.2.1) (
 ifB (pLe a0.1.2.1 (pLen a0.1.2.2.1)) (
 ifB (pLe (pLen a0.1.2.2.1) (pLen a0.1.2.2.1)) (
 ifB (pFit [] (sub a0.1.2.2.1 a0.1.2.1 (pLen a0.1.2.2.1))) (
 ifB (pLe 0 a0.1.2.1) (
 ifB (pLe a0.1.2.1 68719476736) (
 ifB (pFit (pApp [] (sub a0.1.2.2.1 a0.1.2.1 (pLen a0.1.2.2.1))) (pRepl a0.1.2.1 ([],(0,())))) (
 some ((a0.1.1,(a0.1.2.1,((pApp (pApp [] (sub a0.1.2.2.1 a0.1.2.1 (pLen a0.1.2.2.1))) (pRepl a0.1.2.1 ([],(0,())))),(a0.1.2.2.2.1,(a0.1.2.2.2.2.1,(false,a0.1.2.2.2.2.2.2)))))),a0.2)) (
 none)) (
 none)) (
 none)) (
 none)) (
 none)) (
 none)) (
 none))
end Go.AE.F
end
