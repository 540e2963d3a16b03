/- Functions as they are printed out of the program: plain Lean, nothing is claimed here. -/
import Derived.Test.YthcbmbakpjelgaaGreatDoorLSendF8
noncomputable section
namespace Go.AE.F
open Go.AE
def zAQ.l2 {R:Type} (N:Nat) (d:ByteArray×List Int×Unit) (kn:ByteArray×List Int×Unit->Option R) (kx:List Int×Unit->Option R):Option R :=
 let x8:=d.1;
 let x9:=d.2.1;
 ifB (pNot (pSEq x8 (ByteArray.mk #[]))) (
 bindO (zBW N x8) fun y10 =>
 ifB (pFit x9 [(pConv .i64 y10.1)]) (
 ifB (pLe 0 y10.2) (
 ifB (pLe y10.2 (pSize x8)) (
 ifB (pLe (pSize x8) (pSize x8)) (
 kn ((ssub x8 y10.2 (pSize x8)),(pApp x9 [(pConv .i64 y10.1)]),())) (
 none)) (
 none)) (
 none)) (
 none)) (
 kx (x9,()))
def zAQ (N:Nat) (a0:ByteArray):Option (List Int) :=
 loopP (zAQ.l2 N) N (a0,[],()) (
 fun d =>
 let x11:=d.1;
 some x11)
def zBU (N:Nat) (a0:Int×Int×(List (List (Int)×Int×Unit))×Int×Int×Bool×Int×Unit) (a1:Int) (a2:Int):Option (Int×Int×(List (List Int×Int×Unit))×Int×Int×Bool×Int×Unit) :=
 bindO (zAV N a0 a1) fun y7 =>
 ifB y7 (
 bindO (idx a0.2.2.1 (pSub .i64 a1 1)) fun y8 =>
 bindO (idx a0.2.2.1 (pSub .i64 a1 1)) fun y9 =>
 bindO (idx (pSet a0.2.2.1 (pSub .i64 a1 1) ([],y9.2)) a1) fun y10 =>
 bindO (idx (pSet a0.2.2.1 (pSub .i64 a1 1) ([],y9.2)) a1) fun y11 =>
 some (a0.1,(a0.2.1,((pSet (pSet a0.2.2.1 (pSub .i64 a1 1) ([],y9.2)) a1 ([],(a2,()))),a0.2.2.2)))) (
 bindO (idx a0.2.2.1 a1) fun y12 =>
 bindO (idx a0.2.2.1 a1) fun y13 =>
 some (a0.1,(a0.2.1,((pSet a0.2.2.1 a1 ([],(a2,()))),a0.2.2.2))))
def zAG.l1 {R:Type} (N:Nat) (d:Int×Int×(Int×Int×(List (List Int×Int×Unit))×Int×Int×Bool×Int×Unit)×Unit) (kn:Int×Int×(Int×Int×(List (List Int×Int×Unit))×Int×Int×Bool×Int×Unit)×Unit->Option R) (kx:(Int×Int×(List (List Int×Int×Unit))×Int×Int×Bool×Int×Unit)×Unit->Option R):Option R :=
 let x10:=d.1;
 let x11:=d.2.1;
 let x12:=d.2.2.1;
 ifB (pLt x11 x10) (
 bindO (zBU N x12 x11 0) fun y13 =>
 kn (x10,(pAdd .i64 x11 1),y13,())) (
 kx (x12,()))
def zAG (N:Nat) (a0:Int×Int×(List (List (Int)×Int×Unit))×Int×Int×Bool×Int×Unit) (a1:Int) (a2:Int):Option (Int×Int×(List (List Int×Int×Unit))×Int×Int×Bool×Int×Unit) :=
 loopP (zAG.l1 N) N (a2,a1,a0,()) (
 fun d =>
 let x14:=d.1;
 some x14)
def zBF (N:Nat) (a0:Int×Int×(List (List (Int)×Int×Unit))×Int×Int×Bool×Int×Unit) (a1:Int) (a2:List (Int)):Option (Int×Int×(List (List Int×Int×Unit))×Int×Int×Bool×Int×Unit) :=
 ifB (pFit a2 [0]) (
 bindO (idx (pApp a2 [0]) 0) fun y11 =>
 bindO (idx (pApp a2 [0]) 0) fun y12 =>
 ifB (pEq a1 65) (
 some (a0.1,(a0.2.1,(a0.2.2.1,((pMax (pSub .i64 a0.2.2.2.1 (pMax y12 1)) 0),(a0.2.2.2.2.1,(false,a0.2.2.2.2.2.2))))))) (
 ifB (pEq a1 66) (
 some (a0.1,(a0.2.1,(a0.2.2.1,((pMin (pAdd .i64 a0.2.2.2.1 (pMax y12 1)) (pSub .i64 a0.1 1)),(a0.2.2.2.2.1,(false,a0.2.2.2.2.2.2))))))) (
 ifB (pEq a1 67) (
 some (a0.1,(a0.2.1,(a0.2.2.1,(a0.2.2.2.1,((pMin (pAdd .i64 a0.2.2.2.2.1 (pMax y12 1)) (pSub .i64 a0.2.1 1)),(false,a0.2.2.2.2.2.2))))))) (
 ifB (pEq a1 68) (
 some (a0.1,(a0.2.1,(a0.2.2.1,(a0.2.2.2.1,((pMax (pSub .i64 a0.2.2.2.2.1 (pMax y12 1)) 0),(false,a0.2.2.2.2.2.2))))))) (
 ifB (pEq a1 72) (
 bindO (idx (pApp a2 [0]) 1) fun y13 =>
 bindO (idx (pApp a2 [0]) 1) fun y14 =>
 some (a0.1,(a0.2.1,(a0.2.2.1,((pSub .i64 (pMin (pMax y12 1) a0.1) 1),((pSub .i64 (pMin (pMax y14 1) a0.2.1) 1),(false,a0.2.2.2.2.2.2))))))) (
 ifB (pEq a1 74) (
 bindO (zAG N a0 (pAdd .i64 (pMul .i64 a0.2.2.2.1 a0.2.1) a0.2.2.2.2.1) (pMul .i64 a0.1 a0.2.1)) fun y15 =>
 some (y15.1,(y15.2.1,(y15.2.2.1,(y15.2.2.2.1,(y15.2.2.2.2.1,(false,y15.2.2.2.2.2.2))))))) (
 ifB (pEq a1 75) (
 bindO (zAG N a0 (pAdd .i64 (pMul .i64 a0.2.2.2.1 a0.2.1) a0.2.2.2.2.1) (pMul .i64 (pAdd .i64 a0.2.2.2.1 1) a0.2.1)) fun y16 =>
 some (y16.1,(y16.2.1,(y16.2.2.1,(y16.2.2.2.1,(y16.2.2.2.2.1,(false,y16.2.2.2.2.2.2))))))) (
 ifB (pEq a1 109) (
 bindO (idx (pApp a2 [0]) 0) fun y17 =>
 bindO (idx (pApp a2 [0]) 0) fun y18 =>
 bindO (zBA N y18 0 3) fun y19 =>
 ifB y19 (
 bindO (idx (pApp a2 [0]) 0) fun y20 =>
 bindO (idx (pApp a2 [0]) 0) fun y21 =>
 some (a0.1,(a0.2.1,(a0.2.2.1,(a0.2.2.2.1,(a0.2.2.2.2.1,(a0.2.2.2.2.2.1,(y21,a0.2.2.2.2.2.2.2)))))))) (
 some a0)) (
 some a0))))))))) (
 none)
def zAE.l3 {R:Type} (N:Nat) (d:List Int×Int×List Int×Int×Int×(Int×Int×(List (List Int×Int×Unit))×Int×Int×Bool×Int×Unit)×List Int×Unit) (kn:List Int×Int×List Int×Int×Int×(Int×Int×(List (List Int×Int×Unit))×Int×Int×Bool×Int×Unit)×List Int×Unit->Option R) (kx:(List Int×(Int×Int×(List (List Int×Int×Unit))×Int×Int×Bool×Int×Unit)×Unit) ⊕ (Int×(Int×Int×(List (List Int×Int×Unit))×Int×Int×Bool×Int×Unit)×Unit)->Option R):Option R :=
 let x54:=d.1;
 let x55:=d.2.1;
 let x56:=d.2.2.1;
 let x57:=d.2.2.2.1;
 let x58:=d.2.2.2.2.1;
 let x59:=d.2.2.2.2.2.1;
 let x60:=d.2.2.2.2.2.2.1;
 ifB (pLt x58 x57) (
 bindO (A:=(List Int×Int×List Int×Int×Int×(Int×Int×(List (List Int×Int×Unit))×Int×Int×Bool×Int×Unit)×List Int×Unit) ⊕ (Int×(Int×Int×(List (List Int×Int×Unit))×Int×Int×Bool×Int×Unit)×Unit)) (
 bindO (idx x56 x58) fun y61 =>
 bindO (zBA N y61 48 57) fun y62 =>
 ifB y62 (
 bindO (idx x60 (pSub .i64 (pLen x60) 1)) fun y63 =>
 bindO (idx x60 (pSub .i64 (pLen x60) 1)) fun y64 =>
 bindO (idx x60 (pSub .i64 (pLen x60) 1)) fun y65 =>
 bindO (idx x60 (pSub .i64 (pLen x60) 1)) fun y66 =>
 ifB (pGt (pAdd .i64 x55 1) 4) (
 bindO (idx (pSet x60 (pSub .i64 (pLen x60) 1) (pMin (pSub .i64 (pAdd .i64 (pMul .i64 10 y64) y61) 48) 99999)) (pSub .i64 (pLen x60) 1)) fun y67 =>
 bindO (idx (pSet x60 (pSub .i64 (pLen x60) 1) (pMin (pSub .i64 (pAdd .i64 (pMul .i64 10 y64) y61) 48) 99999)) (pSub .i64 (pLen x60) 1)) fun y68 =>
 some (.inl (x54,(pAdd .i64 x55 1),x56,x57,x58,x59,(pSet (pSet x60 (pSub .i64 (pLen x60) 1) (pMin (pSub .i64 (pAdd .i64 (pMul .i64 10 y64) y61) 48) 99999)) (pSub .i64 (pLen x60) 1) 0),()))) (
 some (.inl (x54,(pAdd .i64 x55 1),x56,x57,x58,x59,(pSet x60 (pSub .i64 (pLen x60) 1) (pMin (pSub .i64 (pAdd .i64 (pMul .i64 10 y64) y61) 48) 99999)),())))) (
 ifB (pEq y61 59) (
 ifB (pFit x60 [0]) (
 some (.inl (x54,0,x56,x57,x58,x59,(pApp x60 [0]),()))) (
 none)) (
 bindO (zBF N x59 y61 x60) fun y69 =>
 some (.inr ((pAdd .i64 x58 1),y69,()))))) (
 onSum (fun d =>
 let x70:=d.1;
 let x71:=d.2.1;
 let x72:=d.2.2.1;
 let x73:=d.2.2.2.1;
 let x74:=d.2.2.2.2.1;
 let x75:=d.2.2.2.2.2.1;
 let x76:=d.2.2.2.2.2.2.1;
 kn (x70,x71,x72,x73,(pAdd .i64 x74 1),x75,x76,())) (
 fun d =>
 let x77:=d.1;
 let x78:=d.2.1;
 kx (.inr (x77,x78,()))))) (
 kx (.inl (x54,x59,())))
def zAE (N:Nat) (a0:Int×Int×(List (List (Int)×Int×Unit))×Int×Int×Bool×Int×Unit) (a1:List (Int)):Option (Int×Int×Int×(List (List Int×Int×Unit))×Int×Int×Bool×Int×Unit) :=
 loopP (zAE.l3 N) N (a1,0,a1,(pLen a1),0,a0,[0],()) (
 onSum (fun d =>
 let x79:=d.1;
 let x80:=d.2.1;
 some ((pLen x79),x80)) (
 fun d =>
 let x81:=d.1;
 let x82:=d.2.1;
 some (x81,x82)))
def zBO (N:Nat) (a0:Int×Int×(List (List (Int)×Int×Unit))×Int×Int×Bool×Int×Unit):Option (Int×Int×(List (List Int×Int×Unit))×Int×Int×Bool×Int×Unit) :=
 ifB (pLt a0.2.2.2.1 (pSub .i64 a0.1 1)) (
 some (a0.1,(a0.2.1,(a0.2.2.1,((pAdd .i64 a0.2.2.2.1 1),a0.2.2.2.2))))) (
 ifB (pLe 0 a0.2.1) (
 ifB (pLe a0.2.1 (pLen a0.2.2.1)) (
 ifB (pLe (pLen a0.2.2.1) (pLen a0.2.2.1)) (
 ifB (pLe 0 a0.2.1) (
 ifB (pLe a0.2.1 68719476736) (
 ifB (pFit (sub a0.2.2.1 a0.2.1 (pLen a0.2.2.1)) (pRepl a0.2.1 ([],(0,())))) (
 some (a0.1,(a0.2.1,((pApp (sub a0.2.2.1 a0.2.1 (pLen a0.2.2.1)) (pRepl a0.2.1 ([],(0,())))),a0.2.2.2)))) (
 none)) (
 none)) (
 none)) (
 none)) (
 none)) (
 none))
def zCB (N:Nat) (a0:Int×Int×(List (List (Int)×Int×Unit))×Int×Int×Bool×Int×Unit) (a1:Int):Option (Int×Int×(List (List Int×Int×Unit))×Int×Int×Bool×Int×Unit) :=
 ifB (pNot a0.2.2.2.2.2.1) (
 ifB (pEq a0.2.2.2.2.1 0) (
 some a0) (
 bindO (zAV N a0 (pSub .i64 (pAdd .i64 (pMul .i64 a0.2.2.2.1 a0.2.1) a0.2.2.2.2.1) 1)) fun y34 =>
 ifB y34 (
 bindO (idx a0.2.2.1 (pSub .i64 (pSub .i64 (pAdd .i64 (pMul .i64 a0.2.2.2.1 a0.2.1) a0.2.2.2.2.1) 1) 1)) fun y35 =>
 bindO (idx a0.2.2.1 (pSub .i64 (pSub .i64 (pAdd .i64 (pMul .i64 a0.2.2.2.1 a0.2.1) a0.2.2.2.2.1) 1) 1)) fun y36 =>
 bindO (zB0 N y36) fun y37 =>
 bindO (
 ifB (pNot y37) (
 bindO (idx a0.2.2.1 (pSub .i64 (pSub .i64 (pAdd .i64 (pMul .i64 a0.2.2.2.1 a0.2.1) a0.2.2.2.2.1) 1) 1)) fun y39 =>
 some (pLt (pLen y39.1) 4)) (
 some false)) fun y38 =>
 ifB y38 (
 bindO (idx a0.2.2.1 (pSub .i64 (pSub .i64 (pAdd .i64 (pMul .i64 a0.2.2.2.1 a0.2.1) a0.2.2.2.2.1) 1) 1)) fun y40 =>
 bindO (zAA N y40.1) fun y41 =>
 ifB (pFit y41 [a1]) (
 bindO (idx a0.2.2.1 (pSub .i64 (pSub .i64 (pAdd .i64 (pMul .i64 a0.2.2.2.1 a0.2.1) a0.2.2.2.2.1) 1) 1)) fun y42 =>
 some (a0.1,(a0.2.1,((pSet a0.2.2.1 (pSub .i64 (pSub .i64 (pAdd .i64 (pMul .i64 a0.2.2.2.1 a0.2.1) a0.2.2.2.2.1) 1) 1) ((pApp y41 [a1]),y42.2)),a0.2.2.2)))) (
 none)) (
 some a0)) (
 bindO (idx a0.2.2.1 (pSub .i64 (pAdd .i64 (pMul .i64 a0.2.2.2.1 a0.2.1) a0.2.2.2.2.1) 1)) fun y43 =>
 bindO (idx a0.2.2.1 (pSub .i64 (pAdd .i64 (pMul .i64 a0.2.2.2.1 a0.2.1) a0.2.2.2.2.1) 1)) fun y44 =>
 bindO (zB0 N y44) fun y45 =>
 bindO (
 ifB (pNot y45) (
 bindO (idx a0.2.2.1 (pSub .i64 (pAdd .i64 (pMul .i64 a0.2.2.2.1 a0.2.1) a0.2.2.2.2.1) 1)) fun y47 =>
 some (pLt (pLen y47.1) 4)) (
 some false)) fun y46 =>
 ifB y46 (
 bindO (idx a0.2.2.1 (pSub .i64 (pAdd .i64 (pMul .i64 a0.2.2.2.1 a0.2.1) a0.2.2.2.2.1) 1)) fun y48 =>
 bindO (zAA N y48.1) fun y49 =>
 ifB (pFit y49 [a1]) (
 bindO (idx a0.2.2.1 (pSub .i64 (pAdd .i64 (pMul .i64 a0.2.2.2.1 a0.2.1) a0.2.2.2.2.1) 1)) fun y50 =>
 some (a0.1,(a0.2.1,((pSet a0.2.2.1 (pSub .i64 (pAdd .i64 (pMul .i64 a0.2.2.2.1 a0.2.1) a0.2.2.2.2.1) 1) ((pApp y49 [a1]),y50.2)),a0.2.2.2)))) (
 none)) (
 some a0)))) (
 bindO (zAV N a0 (pAdd .i64 (pMul .i64 a0.2.2.2.1 a0.2.1) a0.2.2.2.2.1)) fun y51 =>
 ifB y51 (
 bindO (idx a0.2.2.1 (pSub .i64 (pAdd .i64 (pMul .i64 a0.2.2.2.1 a0.2.1) a0.2.2.2.2.1) 1)) fun y52 =>
 bindO (idx a0.2.2.1 (pSub .i64 (pAdd .i64 (pMul .i64 a0.2.2.2.1 a0.2.1) a0.2.2.2.2.1) 1)) fun y53 =>
 bindO (zB0 N y53) fun y54 =>
 bindO (
 ifB (pNot y54) (
 bindO (idx a0.2.2.1 (pSub .i64 (pAdd .i64 (pMul .i64 a0.2.2.2.1 a0.2.1) a0.2.2.2.2.1) 1)) fun y56 =>
 some (pLt (pLen y56.1) 4)) (
 some false)) fun y55 =>
 ifB y55 (
 bindO (idx a0.2.2.1 (pSub .i64 (pAdd .i64 (pMul .i64 a0.2.2.2.1 a0.2.1) a0.2.2.2.2.1) 1)) fun y57 =>
 bindO (zAA N y57.1) fun y58 =>
 ifB (pFit y58 [a1]) (
 bindO (idx a0.2.2.1 (pSub .i64 (pAdd .i64 (pMul .i64 a0.2.2.2.1 a0.2.1) a0.2.2.2.2.1) 1)) fun y59 =>
 some (a0.1,(a0.2.1,((pSet a0.2.2.1 (pSub .i64 (pAdd .i64 (pMul .i64 a0.2.2.2.1 a0.2.1) a0.2.2.2.2.1) 1) ((pApp y58 [a1]),y59.2)),a0.2.2.2)))) (
 none)) (
 some a0)) (
 bindO (idx a0.2.2.1 (pAdd .i64 (pMul .i64 a0.2.2.2.1 a0.2.1) a0.2.2.2.2.1)) fun y60 =>
 bindO (idx a0.2.2.1 (pAdd .i64 (pMul .i64 a0.2.2.2.1 a0.2.1) a0.2.2.2.2.1)) fun y61 =>
 bindO (zB0 N y61) fun y62 =>
 bindO (
 ifB (pNot y62) (
 bindO (idx a0.2.2.1 (pAdd .i64 (pMul .i64 a0.2.2.2.1 a0.2.1) a0.2.2.2.2.1)) fun y64 =>
 some (pLt (pLen y64.1) 4)) (
 some false)) fun y63 =>
 ifB y63 (
 bindO (idx a0.2.2.1 (pAdd .i64 (pMul .i64 a0.2.2.2.1 a0.2.1) a0.2.2.2.2.1)) fun y65 =>
 bindO (zAA N y65.1) fun y66 =>
 ifB (pFit y66 [a1]) (
 bindO (idx a0.2.2.1 (pAdd .i64 (pMul .i64 a0.2.2.2.1 a0.2.1) a0.2.2.2.2.1)) fun y67 =>
 some (a0.1,(a0.2.1,((pSet a0.2.2.1 (pAdd .i64 (pMul .i64 a0.2.2.2.1 a0.2.1) a0.2.2.2.2.1) ((pApp y66 [a1]),y67.2)),a0.2.2.2)))) (
 none)) (
 some a0)))
def zAN.l8 {R:Type} (N:Nat) (d:Int×Int×Int×Int×Int×(Int×Int×(List (List Int×Int×Unit))×Int×Int×Bool×Int×Unit)×Unit) (kn:Int×Int×Int×Int×Int×(Int×Int×(List (List Int×Int×Unit))×Int×Int×Bool×Int×Unit)×Unit->Option R) (kx:Int×Int×Int×(Int×Int×(List (List Int×Int×Unit))×Int×Int×Bool×Int×Unit)×Unit->Option R):Option R :=
 let x46:=d.1;
 let x47:=d.2.1;
 let x48:=d.2.2.1;
 let x49:=d.2.2.2.1;
 let x50:=d.2.2.2.2.1;
 let x51:=d.2.2.2.2.2.1;
 ifB (pLt x50 x49) (
 bindO (zBU N x51 (pAdd .i64 x48 x50) x51.2.2.2.2.2.2.1) fun y52 =>
 kn (x46,x47,x48,x49,(pAdd .i64 x50 1),y52,())) (
 kx (x46,x47,x48,x51,()))
def zAN (N:Nat) (a0:Int×Int×(List (List (Int)×Int×Unit))×Int×Int×Bool×Int×Unit) (a1:Int):Option (Int×Int×(List (List Int×Int×Unit))×Int×Int×Bool×Int×Unit) :=
 bindO (zAW N a1) fun y43 =>
 ifB (pEq y43 0) (
 bindO (zCB N a0 a1) fun y44 =>
 some y44) (
 ifB a0.2.2.2.2.2.1 (
 bindO (zBO N (a0.1,(a0.2.1,(a0.2.2.1,(a0.2.2.2.1,(0,(false,a0.2.2.2.2.2.2))))))) fun y45 =>
 loopP (zAN.l8 N) N (a1,y43,(pAdd .i64 (pMul .i64 y45.2.2.2.1 y45.2.1) y45.2.2.2.2.1),y43,0,y45,()) (
 fun d =>
 let x53:=d.1;
 let x54:=d.2.1;
 let x55:=d.2.2.1;
 let x56:=d.2.2.2.1;
 bindO (idx x56.2.2.1 x55) fun y57 =>
 bindO (idx x56.2.2.1 x55) fun y58 =>
 ifB (pEq (pAdd .i64 x56.2.2.2.2.1 x54) x56.2.1) (
 some (x56.1,(x56.2.1,((pSet x56.2.2.1 x55 ([x53],y58.2)),(x56.2.2.2.1,((pSub .i64 x56.2.1 1),(true,x56.2.2.2.2.2.2))))))) (
 some (x56.1,(x56.2.1,((pSet x56.2.2.1 x55 ([x53],y58.2)),(x56.2.2.2.1,((pAdd .i64 x56.2.2.2.2.1 x54),x56.2.2.2.2.2)))))))) (
 ifB (pEq y43 2) (
 ifB (pEq a0.2.2.2.2.1 (pSub .i64 a0.2.1 1)) (
 bindO (zBO N (a0.1,(a0.2.1,(a0.2.2.1,(a0.2.2.2.1,(0,(false,a0.2.2.2.2.2.2))))))) fun y59 =>
 loopP (zAN.l8 N) N (a1,y43,(pAdd .i64 (pMul .i64 y59.2.2.2.1 y59.2.1) y59.2.2.2.2.1),y43,0,y59,()) (
 fun d =>
 let x67:=d.1;
 let x68:=d.2.1;
 let x69:=d.2.2.1;
 let x70:=d.2.2.2.1;
 bindO (idx x70.2.2.1 x69) fun y71 =>
 bindO (idx x70.2.2.1 x69) fun y72 =>
 ifB (pEq (pAdd .i64 x70.2.2.2.2.1 x68) x70.2.1) (
 some (x70.1,(x70.2.1,((pSet x70.2.2.1 x69 ([x67],y72.2)),(x70.2.2.2.1,((pSub .i64 x70.2.1 1),(true,x70.2.2.2.2.2.2))))))) (
 some (x70.1,(x70.2.1,((pSet x70.2.2.1 x69 ([x67],y72.2)),(x70.2.2.2.1,((pAdd .i64 x70.2.2.2.2.1 x68),x70.2.2.2.2.2)))))))) (
 loopP (zAN.l8 N) N (a1,y43,(pAdd .i64 (pMul .i64 a0.2.2.2.1 a0.2.1) a0.2.2.2.2.1),y43,0,a0,()) (
 fun d =>
 let x80:=d.1;
 let x81:=d.2.1;
 let x82:=d.2.2.1;
 let x83:=d.2.2.2.1;
 bindO (idx x83.2.2.1 x82) fun y84 =>
 bindO (idx x83.2.2.1 x82) fun y85 =>
 ifB (pEq (pAdd .i64 x83.2.2.2.2.1 x81) x83.2.1) (
 some (x83.1,(x83.2.1,((pSet x83.2.2.1 x82 ([x80],y85.2)),(x83.2.2.2.1,((pSub .i64 x83.2.1 1),(true,x83.2.2.2.2.2.2))))))) (
 some (x83.1,(x83.2.1,((pSet x83.2.2.1 x82 ([x80],y85.2)),(x83.2.2.2.1,((pAdd .i64 x83.2.2.2.2.1 x81),x83.2.2.2.2.2))))))))) (
 loopP (zAN.l8 N) N (a1,y43,(pAdd .i64 (pMul .i64 a0.2.2.2.1 a0.2.1) a0.2.2.2.2.1),y43,0,a0,()) (
 fun d =>
 let x93:=d.1;
 let x94:=d.2.1;
 let x95:=d.2.2.1;
 let x96:=d.2.2.2.1;
 bindO (idx x96.2.2.1 x95) fun y97 =>
 bindO (idx x96.2.2.1 x95) fun y98 =>
 ifB (pEq (pAdd .i64 x96.2.2.2.2.1 x94) x96.2.1) (
 some (x96.1,(x96.2.1,((pSet x96.2.2.1 x95 ([x93],y98.2)),(x96.2.2.2.1,((pSub .i64 x96.2.1 1),(true,x96.2.2.2.2.2.2))))))) (
 some (x96.1,(x96.2.1,((pSet x96.2.2.1 x95 ([x93],y98.2)),(x96.2.2.2.1,((pAdd .i64 x96.2.2.2.2.1 x94),x96.2.2.2.2.2))))))))))
end Go.AE.F
end
