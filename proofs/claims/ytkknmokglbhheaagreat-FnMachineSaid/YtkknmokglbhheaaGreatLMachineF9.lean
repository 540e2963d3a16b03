/- Functions as they are printed out of the program: plain Lean, nothing is claimed here. -/
import Derived.Test.YtkknmokglbhheaaGreatLMachineF8
noncomputable section
namespace Go.AE.F
open Go.AE
def zCF (N:Nat) (a0:(List (Int)×Int×Int×Unit)×Int×Int×Int×Unit) (a1:List (Int)×Int×Int×Unit):Option ((List Int×Int×Int×Unit)×Int×Int×Int×Unit) :=
 ifB (pNe a0.2.2.2.1 0) (
 bindO (zCL N a1) fun y2 =>
 some (y2,(0,(0,(a0.2.2.2.1,()))))) (
 bindO (zCL N a0.1) fun y3 =>
 some (y3,(a0.2.1,(a0.2.2.1,(0,())))))
def zAX.l5 {R:Type} (N:Nat) (d:(List (Int×Int×Unit))×Int×Int×Int×(List Int×Int×Int×Unit)×((List Int×Int×Int×Unit)×Int×Int×Int×Unit)×((List (Int×Int×ByteArray×Int×Unit))×List ByteArray×List Int×(List Int×Int×Int×Unit)×Int×Int×Int×Unit)×List Int×Unit) (kn:(List (Int×Int×Unit))×Int×Int×Int×(List Int×Int×Int×Unit)×((List Int×Int×Int×Unit)×Int×Int×Int×Unit)×((List (Int×Int×ByteArray×Int×Unit))×List ByteArray×List Int×(List Int×Int×Int×Unit)×Int×Int×Int×Unit)×List Int×Unit→Option R) (kx:Int×(List Int×Int×Int×Unit)×((List Int×Int×Int×Unit)×Int×Int×Int×Unit)×((List (Int×Int×ByteArray×Int×Unit))×List ByteArray×List Int×(List Int×Int×Int×Unit)×Int×Int×Int×Unit)×Unit→Option R):Option R :=
 let x103:=d.1;
 let x104:=d.2.1;
 let x105:=d.2.2.1;
 let x106:=d.2.2.2.1;
 let x107:=d.2.2.2.2.1;
 let x108:=d.2.2.2.2.2.1;
 let x109:=d.2.2.2.2.2.2.1;
 let x110:=d.2.2.2.2.2.2.2.1;
 bindO (
 ifB (pLt x106 (pLen x103)) (
 some (pEq x109.2.2.2.2.2.2.1 0)) (
 some false)) fun y111 =>
 ifB y111 (
 ifB (pEq x105 (pMul .i64 40 (pAdd .i64 x104 1))) (
 bindO (zBC N x109 6) fun y112 =>
 kx (x105,x107,x108,y112,())) (
 bindO (idx x103 x106) fun y113 =>
 bindO (zC1 N y113.1) fun y114 =>
 ifB (pLe 0 (pSub .i64 (pLen x110) y114.1)) (
 ifB (pLe (pSub .i64 (pLen x110) y114.1) (pLen x110)) (
 ifB (pLe (pLen x110) (pLen x110)) (
 bindO (zC9 N (sub x110 (pSub .i64 (pLen x110) y114.1) (pLen x110))) fun y115 =>
 ifB (pFit y115 [0,0]) (
 ifB (pLe 0 0) (
 ifB (pLe 0 (pSub .i64 (pLen x110) y114.1)) (
 ifB (pLe (pSub .i64 (pLen x110) y114.1) (pLen x110)) (
 ifB (pEq y113.1 1) (
 ifB (pEq x109.2.2.2.2.1 0) (
 bindO (zBC N x109 6) fun y116 =>
 ifB (pGt y114.2 0) (
 ifB (pFit (sub x110 0 (pSub .i64 (pLen x110) y114.1)) [0]) (
 kn (x103,x104,(pAdd .i64 x105 1),(pAdd .i64 x106 1),x107,x108,(y116.1,(y116.2.1,(y116.2.2.1,(y116.2.2.2.1,((pSub .i64 y116.2.2.2.2.1 1),y116.2.2.2.2.2))))),(pApp (sub x110 0 (pSub .i64 (pLen x110) y114.1)) [0]),())) (
 none)) (
 kn (x103,x104,(pAdd .i64 x105 1),(pAdd .i64 x106 1),x107,x108,(y116.1,(y116.2.1,(y116.2.2.1,(y116.2.2.2.1,((pSub .i64 y116.2.2.2.2.1 1),y116.2.2.2.2.2))))),(sub x110 0 (pSub .i64 (pLen x110) y114.1)),()))) (
 ifB (pGt y114.2 0) (
 ifB (pFit (sub x110 0 (pSub .i64 (pLen x110) y114.1)) [0]) (
 kn (x103,x104,(pAdd .i64 x105 1),(pAdd .i64 x106 1),x107,x108,(x109.1,(x109.2.1,(x109.2.2.1,(x109.2.2.2.1,((pSub .i64 x109.2.2.2.2.1 1),x109.2.2.2.2.2))))),(pApp (sub x110 0 (pSub .i64 (pLen x110) y114.1)) [0]),())) (
 none)) (
 kn (x103,x104,(pAdd .i64 x105 1),(pAdd .i64 x106 1),x107,x108,(x109.1,(x109.2.1,(x109.2.2.1,(x109.2.2.2.1,((pSub .i64 x109.2.2.2.2.1 1),x109.2.2.2.2.2))))),(sub x110 0 (pSub .i64 (pLen x110) y114.1)),())))) (
 ifB (pEq y113.1 2) (
 ifB (pGt y114.2 0) (
 ifB (pFit (sub x110 0 (pSub .i64 (pLen x110) y114.1)) [y113.2.1]) (
 kn (x103,x104,(pAdd .i64 x105 1),(pAdd .i64 x106 1),x107,x108,x109,(pApp (sub x110 0 (pSub .i64 (pLen x110) y114.1)) [y113.2.1]),())) (
 none)) (
 kn (x103,x104,(pAdd .i64 x105 1),(pAdd .i64 x106 1),x107,x108,x109,(sub x110 0 (pSub .i64 (pLen x110) y114.1)),()))) (
 ifB (pEq y113.1 3) (
 bindO (idx x109.2.2.1 y113.2.1) fun y117 =>
 bindO (idx x109.2.2.1 y113.2.1) fun y118 =>
 ifB (pGt y114.2 0) (
 ifB (pFit (sub x110 0 (pSub .i64 (pLen x110) y114.1)) [y118]) (
 kn (x103,x104,(pAdd .i64 x105 1),(pAdd .i64 x106 1),x107,x108,x109,(pApp (sub x110 0 (pSub .i64 (pLen x110) y114.1)) [y118]),())) (
 none)) (
 kn (x103,x104,(pAdd .i64 x105 1),(pAdd .i64 x106 1),x107,x108,x109,(sub x110 0 (pSub .i64 (pLen x110) y114.1)),()))) (
 ifB (pEq y113.1 4) (
 bindO (idx (pApp y115 [0,0]) 0) fun y119 =>
 bindO (idx (pApp y115 [0,0]) 0) fun y120 =>
 bindO (idx x109.2.2.1 y113.2.1) fun y121 =>
 bindO (idx x109.2.2.1 y113.2.1) fun y122 =>
 ifB (pGt y114.2 0) (
 ifB (pFit (sub x110 0 (pSub .i64 (pLen x110) y114.1)) [0]) (
 kn (x103,x104,(pAdd .i64 x105 1),(pAdd .i64 x106 1),x107,x108,(x109.1,(x109.2.1,((pSet x109.2.2.1 y113.2.1 y120),x109.2.2.2))),(pApp (sub x110 0 (pSub .i64 (pLen x110) y114.1)) [0]),())) (
 none)) (
 kn (x103,x104,(pAdd .i64 x105 1),(pAdd .i64 x106 1),x107,x108,(x109.1,(x109.2.1,((pSet x109.2.2.1 y113.2.1 y120),x109.2.2.2))),(sub x110 0 (pSub .i64 (pLen x110) y114.1)),()))) (
 ifB (pEq y113.1 5) (
 ifB (pGt y114.2 0) (
 ifB (pFit (sub x110 0 (pSub .i64 (pLen x110) y114.1)) [x109.2.2.2.1.2.1]) (
 kn (x103,x104,(pAdd .i64 x105 1),(pAdd .i64 x106 1),x107,x108,x109,(pApp (sub x110 0 (pSub .i64 (pLen x110) y114.1)) [x109.2.2.2.1.2.1]),())) (
 none)) (
 kn (x103,x104,(pAdd .i64 x105 1),(pAdd .i64 x106 1),x107,x108,x109,(sub x110 0 (pSub .i64 (pLen x110) y114.1)),()))) (
 ifB (pEq y113.1 6) (
 ifB (pGt y114.2 0) (
 ifB (pFit (sub x110 0 (pSub .i64 (pLen x110) y114.1)) [(pLen x109.2.2.2.1.1)]) (
 kn (x103,x104,(pAdd .i64 x105 1),(pAdd .i64 x106 1),x107,x108,x109,(pApp (sub x110 0 (pSub .i64 (pLen x110) y114.1)) [(pLen x109.2.2.2.1.1)]),())) (
 none)) (
 kn (x103,x104,(pAdd .i64 x105 1),(pAdd .i64 x106 1),x107,x108,x109,(sub x110 0 (pSub .i64 (pLen x110) y114.1)),()))) (
 ifB (pEq y113.1 7) (
 ifB (pGt y114.2 0) (
 ifB (pFit (sub x110 0 (pSub .i64 (pLen x110) y114.1)) [x109.2.2.2.1.2.2.1]) (
 kn (x103,x104,(pAdd .i64 x105 1),(pAdd .i64 x106 1),x107,x108,x109,(pApp (sub x110 0 (pSub .i64 (pLen x110) y114.1)) [x109.2.2.2.1.2.2.1]),())) (
 none)) (
 kn (x103,x104,(pAdd .i64 x105 1),(pAdd .i64 x106 1),x107,x108,x109,(sub x110 0 (pSub .i64 (pLen x110) y114.1)),()))) (
 ifB (pEq y113.1 8) (
 bindO (idx (pApp y115 [0,0]) 0) fun y123 =>
 bindO (idx (pApp y115 [0,0]) 0) fun y124 =>
 bindO (zBS N x109 (16,(0,((ByteArray.mk #[]),(0,())))) y124 0) fun y125 =>
 ifB (pGt y114.2 0) (
 ifB (pFit (sub x110 0 (pSub .i64 (pLen x110) y114.1)) [y125.1]) (
 kn (x103,x104,(pAdd .i64 x105 1),(pAdd .i64 x106 1),x107,x108,y125.2,(pApp (sub x110 0 (pSub .i64 (pLen x110) y114.1)) [y125.1]),())) (
 none)) (
 kn (x103,x104,(pAdd .i64 x105 1),(pAdd .i64 x106 1),x107,x108,y125.2,(sub x110 0 (pSub .i64 (pLen x110) y114.1)),()))) (
 ifB (pEq y113.1 9) (
 bindO (idx (pApp y115 [0,0]) 0) fun y126 =>
 bindO (idx (pApp y115 [0,0]) 0) fun y127 =>
 bindO (zBS N x109 (17,(0,((ByteArray.mk #[]),(0,())))) y127 0) fun y128 =>
 ifB (pGt y114.2 0) (
 ifB (pFit (sub x110 0 (pSub .i64 (pLen x110) y114.1)) [y128.1]) (
 kn (x103,x104,(pAdd .i64 x105 1),(pAdd .i64 x106 1),x107,x108,y128.2,(pApp (sub x110 0 (pSub .i64 (pLen x110) y114.1)) [y128.1]),())) (
 none)) (
 kn (x103,x104,(pAdd .i64 x105 1),(pAdd .i64 x106 1),x107,x108,y128.2,(sub x110 0 (pSub .i64 (pLen x110) y114.1)),()))) (
 ifB (pEq y113.1 10) (
 bindO (idx (pApp y115 [0,0]) 0) fun y129 =>
 bindO (idx (pApp y115 [0,0]) 0) fun y130 =>
 bindO (idx (pApp y115 [0,0]) 1) fun y131 =>
 bindO (idx (pApp y115 [0,0]) 1) fun y132 =>
 bindO (zBS N x109 (y113.2.1,(0,((ByteArray.mk #[]),(0,())))) y130 y132) fun y133 =>
 ifB (pGt y114.2 0) (
 ifB (pFit (sub x110 0 (pSub .i64 (pLen x110) y114.1)) [y133.1]) (
 kn (x103,x104,(pAdd .i64 x105 1),(pAdd .i64 x106 1),x107,x108,y133.2,(pApp (sub x110 0 (pSub .i64 (pLen x110) y114.1)) [y133.1]),())) (
 none)) (
 kn (x103,x104,(pAdd .i64 x105 1),(pAdd .i64 x106 1),x107,x108,y133.2,(sub x110 0 (pSub .i64 (pLen x110) y114.1)),()))) (
 ifB (pEq y113.1 11) (
 ifB (pGt y114.2 0) (
 ifB (pFit (sub x110 0 (pSub .i64 (pLen x110) y114.1)) [0]) (
 kn (x103,x104,(pAdd .i64 x105 1),y113.2.1,x107,x108,x109,(pApp (sub x110 0 (pSub .i64 (pLen x110) y114.1)) [0]),())) (
 none)) (
 kn (x103,x104,(pAdd .i64 x105 1),y113.2.1,x107,x108,x109,(sub x110 0 (pSub .i64 (pLen x110) y114.1)),()))) (
 ifB (pEq y113.1 12) (
 bindO (idx (pApp y115 [0,0]) 0) fun y134 =>
 bindO (idx (pApp y115 [0,0]) 0) fun y135 =>
 ifB (pEq y135 0) (
 ifB (pGt y114.2 0) (
 ifB (pFit (sub x110 0 (pSub .i64 (pLen x110) y114.1)) [0]) (
 kn (x103,x104,(pAdd .i64 x105 1),y113.2.1,x107,x108,x109,(pApp (sub x110 0 (pSub .i64 (pLen x110) y114.1)) [0]),())) (
 none)) (
 kn (x103,x104,(pAdd .i64 x105 1),y113.2.1,x107,x108,x109,(sub x110 0 (pSub .i64 (pLen x110) y114.1)),()))) (
 ifB (pGt y114.2 0) (
 ifB (pFit (sub x110 0 (pSub .i64 (pLen x110) y114.1)) [0]) (
 kn (x103,x104,(pAdd .i64 x105 1),(pAdd .i64 x106 1),x107,x108,x109,(pApp (sub x110 0 (pSub .i64 (pLen x110) y114.1)) [0]),())) (
 none)) (
 kn (x103,x104,(pAdd .i64 x105 1),(pAdd .i64 x106 1),x107,x108,x109,(sub x110 0 (pSub .i64 (pLen x110) y114.1)),())))) (
 ifB (pEq y113.1 13) (
 bindO (idx (pApp y115 [0,0]) 0) fun y136 =>
 bindO (idx (pApp y115 [0,0]) 0) fun y137 =>
 bindO (zBF N x109 5 y137 0) fun y138 =>
 ifB (pGt y114.2 0) (
 ifB (pFit (sub x110 0 (pSub .i64 (pLen x110) y114.1)) [0]) (
 kn (x103,x104,(pAdd .i64 x105 1),(pAdd .i64 x106 1),x107,x108,y138,(pApp (sub x110 0 (pSub .i64 (pLen x110) y114.1)) [0]),())) (
 none)) (
 kn (x103,x104,(pAdd .i64 x105 1),(pAdd .i64 x106 1),x107,x108,y138,(sub x110 0 (pSub .i64 (pLen x110) y114.1)),()))) (
 ifB (pEq y113.1 14) (
 bindO (idx (pApp y115 [0,0]) 0) fun y139 =>
 bindO (idx (pApp y115 [0,0]) 0) fun y140 =>
 bindO (idx (pApp y115 [0,0]) 1) fun y141 =>
 bindO (idx (pApp y115 [0,0]) 1) fun y142 =>
 bindO (zBF N x109 6 y140 y142) fun y143 =>
 ifB (pGt y114.2 0) (
 ifB (pFit (sub x110 0 (pSub .i64 (pLen x110) y114.1)) [0]) (
 kn (x103,x104,(pAdd .i64 x105 1),(pAdd .i64 x106 1),x107,x108,y143,(pApp (sub x110 0 (pSub .i64 (pLen x110) y114.1)) [0]),())) (
 none)) (
 kn (x103,x104,(pAdd .i64 x105 1),(pAdd .i64 x106 1),x107,x108,y143,(sub x110 0 (pSub .i64 (pLen x110) y114.1)),()))) (
 ifB (pEq y113.1 15) (
 bindO (idx (pApp y115 [0,0]) 0) fun y144 =>
 bindO (idx (pApp y115 [0,0]) 0) fun y145 =>
 bindO (zBF N x109 7 y145 0) fun y146 =>
 ifB (pGt y114.2 0) (
 ifB (pFit (sub x110 0 (pSub .i64 (pLen x110) y114.1)) [0]) (
 kn (x103,x104,(pAdd .i64 x105 1),(pAdd .i64 x106 1),x107,x108,y146,(pApp (sub x110 0 (pSub .i64 (pLen x110) y114.1)) [0]),())) (
 none)) (
 kn (x103,x104,(pAdd .i64 x105 1),(pAdd .i64 x106 1),x107,x108,y146,(sub x110 0 (pSub .i64 (pLen x110) y114.1)),()))) (
 ifB (pEq y113.1 16) (
 bindO (idx (pApp y115 [0,0]) 0) fun y147 =>
 bindO (idx (pApp y115 [0,0]) 0) fun y148 =>
 bindO (zBF N x109 8 y148 0) fun y149 =>
 ifB (pGt y114.2 0) (
 ifB (pFit (sub x110 0 (pSub .i64 (pLen x110) y114.1)) [0]) (
 kn (x103,x104,(pAdd .i64 x105 1),(pAdd .i64 x106 1),x107,x108,y149,(pApp (sub x110 0 (pSub .i64 (pLen x110) y114.1)) [0]),())) (
 none)) (
 kn (x103,x104,(pAdd .i64 x105 1),(pAdd .i64 x106 1),x107,x108,y149,(sub x110 0 (pSub .i64 (pLen x110) y114.1)),()))) (
 ifB (pEq y113.1 17) (
 ifB (pGt y114.2 0) (
 ifB (pFit (sub x110 0 (pSub .i64 (pLen x110) y114.1)) [0]) (
 kn (x103,x104,(pAdd .i64 x105 1),(pAdd .i64 x106 1),x107,x108,(x109.1,(x109.2.1,(x109.2.2.1,(x109.2.2.2.1,(x109.2.2.2.2.1,((pAdd .i64 x109.2.2.2.2.2.1 1),x109.2.2.2.2.2.2)))))),(pApp (sub x110 0 (pSub .i64 (pLen x110) y114.1)) [0]),())) (
 none)) (
 kn (x103,x104,(pAdd .i64 x105 1),(pAdd .i64 x106 1),x107,x108,(x109.1,(x109.2.1,(x109.2.2.1,(x109.2.2.2.1,(x109.2.2.2.2.1,((pAdd .i64 x109.2.2.2.2.2.1 1),x109.2.2.2.2.2.2)))))),(sub x110 0 (pSub .i64 (pLen x110) y114.1)),()))) (
 ifB (pEq y113.1 18) (
 bindO (zCT N x109.2.2.2.1 y113.2.1 1 0) fun y150 =>
 ifB (pGt y114.2 0) (
 ifB (pFit (sub x110 0 (pSub .i64 (pLen x110) y114.1)) [0]) (
 kn (x103,x104,(pAdd .i64 x105 1),(pAdd .i64 x106 1),x107,x108,(x109.1,(x109.2.1,(x109.2.2.1,(y150,x109.2.2.2.2)))),(pApp (sub x110 0 (pSub .i64 (pLen x110) y114.1)) [0]),())) (
 none)) (
 kn (x103,x104,(pAdd .i64 x105 1),(pAdd .i64 x106 1),x107,x108,(x109.1,(x109.2.1,(x109.2.2.1,(y150,x109.2.2.2.2)))),(sub x110 0 (pSub .i64 (pLen x110) y114.1)),()))) (
 ifB (pGt y114.2 0) (
 ifB (pFit (sub x110 0 (pSub .i64 (pLen x110) y114.1)) [0]) (
 kn (x103,x104,(pAdd .i64 x105 1),(pAdd .i64 x106 1),x107,x108,x109,(pApp (sub x110 0 (pSub .i64 (pLen x110) y114.1)) [0]),())) (
 none)) (
 kn (x103,x104,(pAdd .i64 x105 1),(pAdd .i64 x106 1),x107,x108,x109,(sub x110 0 (pSub .i64 (pLen x110) y114.1)),()))))))))))))))))))))) (
 none)) (
 none)) (
 none)) (
 none)) (
 none)) (
 none)) (
 none))) (
 kx (x105,x107,x108,x109,()))
def zAX (N:Nat) (a0:List (Int×Int×Unit)) (a1:List (Int)×Int×Int×Unit) (a2:Int):Option (((List Int×Int×Int×Unit)×Int×Int×Int×Unit)×Int) :=
 ifB (pEq 8 8) (
 ifB (pLe 0 8) (
 ifB (pLe 8 68719476736) (
 bindO (zCG N a1) fun y102 =>
 loopP (zAX.l5 N) N (a0,a2,0,0,a1,(([],(0,(0,()))),(0,(0,(0,())))),([],([],((pRepl 8 0),(y102,(a2,(0,(0,()))))))),[],()) (
 fun d =>
 let x151:=d.1;
 let x152:=d.2.1;
 let x153:=d.2.2.1;
 let x154:=d.2.2.2.1;
 ifB (pNe x154.2.2.2.2.2.2.1 0) (
 bindO (zCG N x152) fun y155 =>
 some ((y155,(0,(0,(x154.2.2.2.2.2.2.1,())))),(-1))) (
 some ((x154.2.2.2.1,(x154.2.2.2.2.1,(x154.2.2.2.2.2.1,(0,())))),x151)))) (
 none)) (
 none)) (
 none)
def zCC (N:Nat) (a0:List (Int×Int×Unit)) (a1:List (Int)×Int×Int×Unit) (a2:Int):Option ((List Int×Int×Int×Unit)×Int×Int×Int×Unit) :=
 ifB (pGt (pLen a0) 1500) (
 some (([],(0,(0,()))),(0,(0,(2,()))))) (
 bindO (zAV N a0) fun y6 =>
 bindO (
 ifB (pNot y6) (
 some true) (
 bindO (zBN N a1) fun y8 =>
 some (pNot y8))) fun y7 =>
 bindO (
 ifB y7 (
 some true) (
 some (pLt a2 0))) fun y9 =>
 bindO (
 ifB y9 (
 some true) (
 some (pGt a2 5000))) fun y10 =>
 ifB y10 (
 some (([],(0,(0,()))),(0,(0,(1,()))))) (
 bindO (zAX N a0 a1 a2) fun y11 =>
 some y11.1))
def zBJ.l4 {R:Type} (N:Nat) (d:(List (Int×Int×Unit))×Int×Int×(List Int×Int×Int×Unit)×((List Int×Int×Int×Unit)×Int×Int×Int×Unit)×(((List Int×Int×Int×Unit)×Int×Int×Int×Unit)×List Int×(Int×Int×Int×Int×Int×Int×Int×Int×Unit×Unit)×Int×Unit)×Unit) (kn:(List (Int×Int×Unit))×Int×Int×(List Int×Int×Int×Unit)×((List Int×Int×Int×Unit)×Int×Int×Int×Unit)×(((List Int×Int×Int×Unit)×Int×Int×Int×Unit)×List Int×(Int×Int×Int×Int×Int×Int×Int×Int×Unit×Unit)×Int×Unit)×Unit→Option R) (kx:Int×(List Int×Int×Int×Unit)×((List Int×Int×Int×Unit)×Int×Int×Int×Unit)×(((List Int×Int×Int×Unit)×Int×Int×Int×Unit)×List Int×(Int×Int×Int×Int×Int×Int×Int×Int×Unit×Unit)×Int×Unit)×Unit→Option R):Option R :=
 let x39:=d.1;
 let x40:=d.2.1;
 let x41:=d.2.2.1;
 let x42:=d.2.2.2.1;
 let x43:=d.2.2.2.2.1;
 let x44:=d.2.2.2.2.2.1;
 ifB (pEq x44.1.2.2.2.1 0) (
 bindO (zBE N x39) fun y45 =>
 ifB (pLt x44.2.2.2.1 y45) (
 ifB (pEq x41 (pMul .i64 40 (pAdd .i64 x40 1))) (
 kx (x41,x42,x43,((x44.1.1,(x44.1.2.1,(x44.1.2.2.1,(6,x44.1.2.2.2.2)))),x44.2),())) (
 bindO (idx x39 x44.2.2.2.1) fun y46 =>
 bindO (zAP N x44 y46) fun y47 =>
 kn (x39,x40,(pAdd .i64 x41 1),x42,x43,y47,()))) (
 kx (x41,x42,x43,x44,()))) (
 kx (x41,x42,x43,x44,()))
def zBJ (N:Nat) (a0:List (Int×Int×Unit)) (a1:List (Int)×Int×Int×Unit) (a2:Int):Option (((List Int×Int×Int×Unit)×Int×Int×Int×Unit)×Int) :=
 bindO (zCN N a0) fun y33 =>
 bindO (
 ifB (pNot y33) (
 some true) (
 bindO (zC6 N a1) fun y35 =>
 some (pNot y35))) fun y34 =>
 bindO (
 ifB y34 (
 some true) (
 bindO (zB5 N a2 0 5000) fun y37 =>
 some (pNot y37))) fun y36 =>
 ifB y36 (
 some ((([],(0,(0,()))),(0,(0,(1,())))),0)) (
 bindO (zCL N a1) fun y38 =>
 loopP (zBJ.l4 N) N (a0,a2,0,a1,(([],(0,(0,()))),(0,(0,(0,())))),((y38,(a2,(0,(0,())))),([],((0,(0,(0,(0,(0,(0,(0,(0,((),()))))))))),(0,())))),()) (
 fun d =>
 let x48:=d.1;
 let x49:=d.2.1;
 let x50:=d.2.2.1;
 let x51:=d.2.2.2.1;
 bindO (zCF N x51.1 x49) fun y52 =>
 some (y52,x48)))
def zC2 (N:Nat) (a0:List (Int×Int×Unit)) (a1:List (Int)×Int×Int×Unit) (a2:Int):Option ((List Int×Int×Int×Unit)×Int×Int×Int×Unit) :=
 ifB (pGt (pLen a0) 1500) (
 some (([],(0,(0,()))),(0,(0,(2,()))))) (
 bindO (zBJ N a0 a1 a2) fun y1 =>
 some y1.1)
def zDH (N:Nat) (a0:List (Int×Int×Unit)) (a1:List (Int)×Int×Int×Unit) (a2:Int):Option (Int) :=
 ifB (pGt (pLen a0) 1500) (
 some 0) (
 bindO (zAV N a0) fun y6 =>
 bindO (
 ifB (pNot y6) (
 some true) (
 bindO (zBN N a1) fun y8 =>
 some (pNot y8))) fun y7 =>
 bindO (
 ifB y7 (
 some true) (
 some (pLt a2 0))) fun y9 =>
 bindO (
 ifB y9 (
 some true) (
 some (pGt a2 5000))) fun y10 =>
 ifB y10 (
 some (-1)) (
 bindO (zAX N a0 a1 a2) fun y11 =>
 some y11.2))
def zBX (N:Nat) (a0:List (Int×Int×Unit)) (a1:List (Int)×Int×Int×Unit) (a2:Int):Option (Int) :=
 ifB (pGt (pLen a0) 1500) (
 some 0) (
 bindO (zBJ N a0 a1 a2) fun y1 =>
 ifB (pNe y1.1.2.2.2.1 0) (
 some (-1)) (
 some y1.2))
end Go.AE.F
end
