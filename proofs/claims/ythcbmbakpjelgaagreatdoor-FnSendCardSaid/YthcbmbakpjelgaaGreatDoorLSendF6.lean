/- Functions as they are printed out of the program: plain Lean, nothing is claimed here. -/
import Derived.Test.YthcbmbakpjelgaaGreatDoorLSendF5
noncomputable section
namespace Go.AE.F
open Go.AE
def zAH (N:Nat) (a0:Int×Int×(List (List (Int)×Int×Unit))×Int×Int×Bool×Int×Unit) (a1:Int):Option (ByteArray) :=
 bindO (zCV N a1 0) fun y33 =>
 ifB (pFitS y33 (ByteArray.mk #[27,91,75])) (
 ifB (pFit [] (strInts (pCat y33 (ByteArray.mk #[27,91,75])))) (
 ifB (pLe 0 (pMul .i64 a1 a0.2.1)) (
 ifB (pLe (pMul .i64 a1 a0.2.1) (pMul .i64 (pAdd .i64 a1 1) a0.2.1)) (
 ifB (pLe (pMul .i64 (pAdd .i64 a1 1) a0.2.1) (pLen a0.2.2.1)) (
 loopP (zAH.l5 N) N (0,(sub a0.2.2.1 (pMul .i64 a1 a0.2.1) (pMul .i64 (pAdd .i64 a1 1) a0.2.1)),(pLen (sub a0.2.2.1 (pMul .i64 a1 a0.2.1) (pMul .i64 (pAdd .i64 a1 1) a0.2.1))),0,([],((pApp [] (strInts (pCat y33 (ByteArray.mk #[27,91,75])))),())),()) (
 fun d =>
 let x49:=d.1;
 let x50:=d.2.1;
 ifB (pNe x49 0) (
 ifB (pFit x50.2.1 (strInts (ByteArray.mk #[27,91,48,109]))) (
 some (bytesOf (pApp x50.2.1 (strInts (ByteArray.mk #[27,91,48,109]))))) (
 none)) (
 some (bytesOf x50.2.1)))) (
 none)) (
 none)) (
 none)) (
 none)) (
 none)
def zCF (N:Nat) (a0:Int) (a1:Int):Option (Int×Int×(List (List Int×Int×Unit))×Int×Int×Bool×Int×Unit) :=
 bindO (zC7 N a0 a1) fun y1 =>
 ifB (pNot y1) (
 some (0,(0,([],(0,(0,(false,(0,())))))))) (
 ifB (pEq (pMul .i64 a0 a1) (pMul .i64 a0 a1)) (
 ifB (pLe 0 (pMul .i64 a0 a1)) (
 ifB (pLe (pMul .i64 a0 a1) 68719476736) (
 some (a0,(a1,((pRepl (pMul .i64 a0 a1) ([],(0,()))),(0,(0,(false,(0,())))))))) (
 none)) (
 none)) (
 none))
def zAX.l9 {R:Type} (N:Nat) (d:Int×Bool×Int×(Int×Int×(List (List Int×Int×Unit))×Int×Int×Bool×Int×Unit)×(Int×Int×(List (List Int×Int×Unit))×Int×Int×Bool×Int×Unit)×List Int×Unit) (kn:Int×Bool×Int×(Int×Int×(List (List Int×Int×Unit))×Int×Int×Bool×Int×Unit)×(Int×Int×(List (List Int×Int×Unit))×Int×Int×Bool×Int×Unit)×List Int×Unit->Option R) (kx:Int×Bool×(Int×Int×(List (List Int×Int×Unit))×Int×Int×Bool×Int×Unit)×(Int×Int×(List (List Int×Int×Unit))×Int×Int×Bool×Int×Unit)×List Int×Unit->Option R):Option R :=
 let x76:=d.1;
 let x77:=d.2.1;
 let x78:=d.2.2.1;
 let x79:=d.2.2.2.1;
 let x80:=d.2.2.2.2.1;
 let x81:=d.2.2.2.2.2.1;
 ifB (pLt x78 x80.2.1) (
 bindO (idx x79.2.2.1 (pAdd .i64 (pMul .i64 x76 x80.2.1) x78)) fun y82 =>
 bindO (idx x80.2.2.1 (pAdd .i64 (pMul .i64 x76 x80.2.1) x78)) fun y83 =>
 bindO (
 ifB x77 (
 some (pEq y82.2.1 y83.2.1)) (
 some false)) fun y84 =>
 bindO (
 ifB y84 (
 bindO (zB2 N y82.1 y83.1) fun y86 =>
 some y86) (
 some false)) fun y85 =>
 kn (x76,y85,(pAdd .i64 x78 1),x79,x80,x81,())) (
 kx (x76,x77,x79,x80,x81,()))
def zAX.l5 {R:Type} (N:Nat) (d:Int×(Int×Int×(List (List Int×Int×Unit))×Int×Int×Bool×Int×Unit)×(Int×Int×(List (List Int×Int×Unit))×Int×Int×Bool×Int×Unit)×List Int×Unit) (kn:Int×(Int×Int×(List (List Int×Int×Unit))×Int×Int×Bool×Int×Unit)×(Int×Int×(List (List Int×Int×Unit))×Int×Int×Bool×Int×Unit)×List Int×Unit->Option R) (kx:(Int×Int×(List (List Int×Int×Unit))×Int×Int×Bool×Int×Unit)×(Int×Int×(List (List Int×Int×Unit))×Int×Int×Bool×Int×Unit)×List Int×Unit->Option R):Option R :=
 let x72:=d.1;
 let x73:=d.2.1;
 let x74:=d.2.2.1;
 let x75:=d.2.2.2.1;
 ifB (pLt x72 x74.1) (
 bindO (A:=Int×(Int×Int×(List (List Int×Int×Unit))×Int×Int×Bool×Int×Unit)×(Int×Int×(List (List Int×Int×Unit))×Int×Int×Bool×Int×Unit)×List Int×Unit) (
 loopP (zAX.l9 N) N (x72,true,0,x73,x74,x75,()) (
 fun d =>
 let x87:=d.1;
 let x88:=d.2.1;
 let x89:=d.2.2.1;
 let x90:=d.2.2.2.1;
 let x91:=d.2.2.2.2.1;
 ifB (pNot x88) (
 bindO (zBD N x90 x87) fun y92 =>
 ifB (pFit x91 y92) (
 some (x87,x89,x90,(pApp x91 y92),())) (
 none)) (
 some (x87,x89,x90,x91,())))) (
 fun d =>
 let x93:=d.1;
 let x94:=d.2.1;
 let x95:=d.2.2.1;
 let x96:=d.2.2.2.1;
 kn ((pAdd .i64 x93 1),x94,x95,x96,()))) (
 kx (x73,x74,x75,()))
def zAX (N:Nat) (a0:Int×Int×(List (List (Int)×Int×Unit))×Int×Int×Bool×Int×Unit) (a1:Int×Int×(List (List (Int)×Int×Unit))×Int×Int×Bool×Int×Unit):Option (ByteArray) :=
 bindO (zA4 N a0) fun y67 =>
 bindO (
 ifB (pNot y67) (
 some true) (
 bindO (zA4 N a1) fun y69 =>
 some (pNot y69))) fun y68 =>
 bindO (
 ifB y68 (
 some true) (
 some (pNe a0.1 a1.1))) fun y70 =>
 bindO (
 ifB y70 (
 some true) (
 some (pNe a0.2.1 a1.2.1))) fun y71 =>
 ifB y71 (
 some (ByteArray.mk #[])) (
 loopP (zAX.l5 N) N (0,a0,a1,[],()) (
 fun d =>
 let x97:=d.1;
 let x98:=d.2.1;
 let x99:=d.2.2.1;
 bindO (
 ifB (pGt (pLen x99) 0) (
 some true) (
 some (pNe x97.2.2.2.1 x98.2.2.2.1))) fun y100 =>
 bindO (
 ifB y100 (
 some true) (
 some (pNe x97.2.2.2.2.1 x98.2.2.2.2.1))) fun y101 =>
 ifB y101 (
 bindO (zA5 N (pAdd .i64 x98.2.2.2.1 1)) fun y102 =>
 ifB (pFitS (ByteArray.mk #[27,91]) y102) (
 ifB (pFitS (pCat (ByteArray.mk #[27,91]) y102) (ByteArray.mk #[59])) (
 bindO (zA5 N (pAdd .i64 x98.2.2.2.2.1 1)) fun y103 =>
 ifB (pFitS (pCat (pCat (ByteArray.mk #[27,91]) y102) (ByteArray.mk #[59])) y103) (
 ifB (pFitS (pCat (pCat (pCat (ByteArray.mk #[27,91]) y102) (ByteArray.mk #[59])) y103) (ByteArray.mk #[72])) (
 ifB (pFit x99 (strInts (pCat (pCat (pCat (pCat (ByteArray.mk #[27,91]) y102) (ByteArray.mk #[59])) y103) (ByteArray.mk #[72])))) (
 some (bytesOf (pApp x99 (strInts (pCat (pCat (pCat (pCat (ByteArray.mk #[27,91]) y102) (ByteArray.mk #[59])) y103) (ByteArray.mk #[72])))))) (
 none)) (
 none)) (
 none)) (
 none)) (
 none)) (
 some (bytesOf x99))))
def zEW (N:Nat) (a0:Int) (a1:Int):Option (Int×Int×(List (List Int×Int×Unit))×Int×Int×Bool×Int×Unit) :=
 bindO (zCM N a0) fun y3 =>
 bindO (
 ifB (pNot y3) (
 some true) (
 bindO (zCN N a1) fun y5 =>
 some (pNot y5))) fun y4 =>
 ifB y4 (
 some (0,(0,([],(0,(0,(false,(0,())))))))) (
 ifB (pEq (pMul .i64 a0 a1) (pMul .i64 a0 a1)) (
 ifB (pLe 0 (pMul .i64 a0 a1)) (
 ifB (pLe (pMul .i64 a0 a1) 68719476736) (
 some (a0,(a1,((pRepl (pMul .i64 a0 a1) ([],(0,()))),(0,(0,(false,(0,())))))))) (
 none)) (
 none)) (
 none))
def zBY (N:Nat) (a0:List (Int)×Int×Unit) (a1:List (Int)×Int×Unit):Option (Bool) :=
 bindO (
 ifB (pEq a0.2.1 a1.2.1) (
 bindO (zA3 N a0.1 a1.1) fun y3 =>
 some y3) (
 some false)) fun y2 =>
 some y2
def zA0.l4 {R:Type} (N:Nat) (d:(List (List Int×Int×Unit))×(List (List Int×Int×Unit))×Int×Int×Unit) (kn:(List (List Int×Int×Unit))×(List (List Int×Int×Unit))×Int×Int×Unit->Option R) (kx:(Unit) ⊕ (Bool×Unit)->Option R):Option R :=
 let x18:=d.1;
 let x19:=d.2.1;
 let x20:=d.2.2.1;
 let x21:=d.2.2.2.1;
 ifB (pLt x21 x20) (
 bindO (idx x19 x21) fun y22 =>
 bindO (idx x18 x21) fun y23 =>
 bindO (zBY N y22 y23) fun y24 =>
 ifB (pNot y24) (
 kx (.inr (false,()))) (
 kn (x18,x19,x20,(pAdd .i64 x21 1),()))) (
 kx (.inl (())))
def zA0 (N:Nat) (a0:List (List (Int)×Int×Unit)) (a1:List (List (Int)×Int×Unit)):Option (Bool) :=
 ifB (pNe (pLen a0) (pLen a1)) (
 some false) (
 loopP (zA0.l4 N) N (a1,a0,(pLen a0),0,()) (
 onSum (fun d =>
 some true) (
 fun d =>
 let x25:=d.1;
 some x25)))
def zC8 (N:Nat) (a0:List (List (Int)×Int×Unit)) (a1:List (List (Int)×Int×Unit)):Option (Bool) :=
 bindO (zA0 N a0 a1) fun y1 =>
 some y1
def zBN.l5 {R:Type} (N:Nat) (d:Int×Int×(Int×Int×(List (List Int×Int×Unit))×Int×Int×Bool×Int×Unit)×(Int×Int×(List (List Int×Int×Unit))×Int×Int×Bool×Int×Unit)×(List Unit×List Int×Unit)×Unit) (kn:Int×Int×(Int×Int×(List (List Int×Int×Unit))×Int×Int×Bool×Int×Unit)×(Int×Int×(List (List Int×Int×Unit))×Int×Int×Bool×Int×Unit)×(List Unit×List Int×Unit)×Unit->Option R) (kx:(Int×Int×(List (List Int×Int×Unit))×Int×Int×Bool×Int×Unit)×(Int×Int×(List (List Int×Int×Unit))×Int×Int×Bool×Int×Unit)×(List Unit×List Int×Unit)×Unit->Option R):Option R :=
 let x40:=d.1;
 let x41:=d.2.1;
 let x42:=d.2.2.1;
 let x43:=d.2.2.2.1;
 let x44:=d.2.2.2.2.1;
 ifB (pLt x41 x40) (
 bindO (A:=Int×Int×(Int×Int×(List (List Int×Int×Unit))×Int×Int×Bool×Int×Unit)×(Int×Int×(List (List Int×Int×Unit))×Int×Int×Bool×Int×Unit)×(List Unit×List Int×Unit)×Unit) (
 ifB (pLe 0 (pMul .i64 x41 x43.2.1)) (
 ifB (pLe (pMul .i64 x41 x43.2.1) (pMul .i64 (pAdd .i64 x41 1) x43.2.1)) (
 ifB (pLe (pMul .i64 (pAdd .i64 x41 1) x43.2.1) (pLen x42.2.2.1)) (
 ifB (pLe 0 (pMul .i64 x41 x43.2.1)) (
 ifB (pLe (pMul .i64 x41 x43.2.1) (pMul .i64 (pAdd .i64 x41 1) x43.2.1)) (
 ifB (pLe (pMul .i64 (pAdd .i64 x41 1) x43.2.1) (pLen x43.2.2.1)) (
 bindO (zC8 N (sub x42.2.2.1 (pMul .i64 x41 x43.2.1) (pMul .i64 (pAdd .i64 x41 1) x43.2.1)) (sub x43.2.2.1 (pMul .i64 x41 x43.2.1) (pMul .i64 (pAdd .i64 x41 1) x43.2.1))) fun y45 =>
 ifB (pNot y45) (
 bindO (zAH N x43 x41) fun y46 =>
 ifB (pFit x44.2.1 (strInts y46)) (
 some (x40,x41,x42,x43,([],((pApp x44.2.1 (strInts y46)),())),())) (
 none)) (
 some (x40,x41,x42,x43,x44,()))) (
 none)) (
 none)) (
 none)) (
 none)) (
 none)) (
 none)) (
 fun d =>
 let x47:=d.1;
 let x48:=d.2.1;
 let x49:=d.2.2.1;
 let x50:=d.2.2.2.1;
 let x51:=d.2.2.2.2.1;
 kn (x47,(pAdd .i64 x48 1),x49,x50,x51,()))) (
 kx (x42,x43,x44,()))
def zBN (N:Nat) (a0:Int×Int×(List (List (Int)×Int×Unit))×Int×Int×Bool×Int×Unit) (a1:Int×Int×(List (List (Int)×Int×Unit))×Int×Int×Bool×Int×Unit):Option (ByteArray) :=
 bindO (zAO N a0) fun y35 =>
 bindO (
 ifB (pNot y35) (
 some true) (
 bindO (zAO N a1) fun y37 =>
 some (pNot y37))) fun y36 =>
 bindO (
 ifB y36 (
 some true) (
 some (pNe a0.1 a1.1))) fun y38 =>
 bindO (
 ifB y38 (
 some true) (
 some (pNe a0.2.1 a1.2.1))) fun y39 =>
 ifB y39 (
 some (ByteArray.mk #[])) (
 loopP (zBN.l5 N) N (a1.1,0,a0,a1,([],([],())),()) (
 fun d =>
 let x52:=d.1;
 let x53:=d.2.1;
 let x54:=d.2.2.1;
 bindO (
 ifB (pGt (pLen x54.2.1) 0) (
 some true) (
 some (pNe x52.2.2.2.1 x53.2.2.2.1))) fun y55 =>
 bindO (
 ifB y55 (
 some true) (
 some (pNe x52.2.2.2.2.1 x53.2.2.2.2.1))) fun y56 =>
 ifB y56 (
 bindO (zCV N x53.2.2.2.1 x53.2.2.2.2.1) fun y57 =>
 ifB (pFit x54.2.1 (strInts y57)) (
 some (bytesOf (pApp x54.2.1 (strInts y57)))) (
 none)) (
 some (bytesOf x54.2.1))))
def zCH (N:Nat) (a0:Int×Int×(List (List (Int)×Int×Unit))×Int×Int×Bool×Int×Unit) (a1:Int×Int×(List (List (Int)×Int×Unit))×Int×Int×Bool×Int×Unit):Option (Int) :=
 bindO (zBN N a0 a1) fun y1 =>
 some (pSize y1)
def zAI.l14 {R:Type} (N:Nat) (d:Int×Int×Int×Int×((Int×Int×(List (List Int×Int×Unit))×Int×Int×Bool×Int×Unit)×Int×Int×Unit)×(Int×(List (List (List Int×Int×Unit)))×Int×Unit)×((Int×Int×(List (List Int×Int×Unit))×Int×Int×Bool×Int×Unit)×Int×Int×Unit)×Unit) (kn:Int×Int×Int×Int×((Int×Int×(List (List Int×Int×Unit))×Int×Int×Bool×Int×Unit)×Int×Int×Unit)×(Int×(List (List (List Int×Int×Unit)))×Int×Unit)×((Int×Int×(List (List Int×Int×Unit))×Int×Int×Bool×Int×Unit)×Int×Int×Unit)×Unit->Option R) (kx:Int×Int×Int×((Int×Int×(List (List Int×Int×Unit))×Int×Int×Bool×Int×Unit)×Int×Int×Unit)×(Int×(List (List (List Int×Int×Unit)))×Int×Unit)×((Int×Int×(List (List Int×Int×Unit))×Int×Int×Bool×Int×Unit)×Int×Int×Unit)×Unit->Option R):Option R :=
 let x82:=d.1;
 let x83:=d.2.1;
 let x84:=d.2.2.1;
 let x85:=d.2.2.2.1;
 let x86:=d.2.2.2.2.1;
 let x87:=d.2.2.2.2.2.1;
 let x88:=d.2.2.2.2.2.2.1;
 ifB (pLt x85 x83) (
 bindO (idx x87.2.1 (pAdd .i64 x88.2.1 x84)) fun y89 =>
 bindO (idx y89 x85) fun y90 =>
 bindO (idx x88.1.2.2.1 (pAdd .i64 (pMul .i64 x84 x83) x85)) fun y91 =>
 bindO (idx x88.1.2.2.1 (pAdd .i64 (pMul .i64 x84 x83) x85)) fun y92 =>
 kn (x82,x83,x84,(pAdd .i64 x85 1),x86,x87,((x88.1.1,(x88.1.2.1,((pSet x88.1.2.2.1 (pAdd .i64 (pMul .i64 x84 x83) x85) y90),x88.1.2.2.2))),x88.2),())) (
 kx (x82,x83,x84,x86,x87,x88,()))
def zAI.l11 {R:Type} (N:Nat) (d:Int×Int×Int×((Int×Int×(List (List Int×Int×Unit))×Int×Int×Bool×Int×Unit)×Int×Int×Unit)×(Int×(List (List (List Int×Int×Unit)))×Int×Unit)×((Int×Int×(List (List Int×Int×Unit))×Int×Int×Bool×Int×Unit)×Int×Int×Unit)×Unit) (kn:Int×Int×Int×((Int×Int×(List (List Int×Int×Unit))×Int×Int×Bool×Int×Unit)×Int×Int×Unit)×(Int×(List (List (List Int×Int×Unit)))×Int×Unit)×((Int×Int×(List (List Int×Int×Unit))×Int×Int×Bool×Int×Unit)×Int×Int×Unit)×Unit->Option R) (kx:((Int×Int×(List (List Int×Int×Unit))×Int×Int×Bool×Int×Unit)×Int×Int×Unit)×((Int×Int×(List (List Int×Int×Unit))×Int×Int×Bool×Int×Unit)×Int×Int×Unit)×Unit->Option R):Option R :=
 let x76:=d.1;
 let x77:=d.2.1;
 let x78:=d.2.2.1;
 let x79:=d.2.2.2.1;
 let x80:=d.2.2.2.2.1;
 let x81:=d.2.2.2.2.2.1;
 ifB (pLt x78 x76) (
 ifB (pLt (pAdd .i64 x81.2.1 x78) (pLen x80.2.1)) (
 loopP (zAI.l14 N) N (x76,x77,x78,0,x79,x80,x81,()) (
 fun d =>
 let x93:=d.1;
 let x94:=d.2.1;
 let x95:=d.2.2.1;
 let x96:=d.2.2.2.1;
 let x97:=d.2.2.2.2.1;
 let x98:=d.2.2.2.2.2.1;
 kn (x93,x94,(pAdd .i64 x95 1),x96,x97,x98,()))) (
 kx (x79,x81,()))) (
 kx (x79,x81,()))
def zAI (N:Nat) (a0:List (Int)) (a1:List (Int)×Int×Int×Unit) (a2:Bool) (a3:Int) (a4:Int):Option ((Int×Int×(List (List Int×Int×Unit))×Int×Int×Bool×Int×Unit)×Int×Int×Unit) :=
 ifB (pGt (pLen a0) 400) (
 some ((0,(0,([],(0,(0,(false,(0,()))))))),(0,(2,())))) (
 bindO (zAJ N a0) fun y67 =>
 bindO (
 ifB (pNot y67) (
 some true) (
 bindO (zCK N a1) fun y69 =>
 some (pNot y69))) fun y68 =>
 bindO (
 ifB y68 (
 some true) (
 bindO (zC7 N a3 a4) fun y71 =>
 some (pNot y71))) fun y70 =>
 ifB y70 (
 some ((0,(0,([],(0,(0,(false,(0,()))))))),(0,(1,())))) (
 bindO (zAK N a0 a1 a2 a4) fun y72 =>
 bindO (idx y72.2 a1.2.1) fun y73 =>
 bindO (zCF N a3 a4) fun y74 =>
 bindO (zBV N 0 (pAdd .i64 (pSub .i64 y73.1 a3) 1)) fun y75 =>
 loopP (zAI.l11 N) N (a3,a4,0,((0,(0,([],(0,(0,(false,(0,()))))))),(0,(0,()))),y72.1,((y74.1,(y74.2.1,(y74.2.2.1,((pSub .i64 y73.1 y75),(y73.2.1,y74.2.2.2.2.2))))),(y75,(0,()))),()) (
 fun d =>
 let x99:=d.1;
 let x100:=d.2.1;
 some x100)))
end Go.AE.F
end
