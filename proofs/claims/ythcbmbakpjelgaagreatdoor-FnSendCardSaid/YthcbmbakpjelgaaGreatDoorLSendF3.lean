/- Functions as they are printed out of the program: plain Lean, nothing is claimed here. -/
import Derived.Test.YthcbmbakpjelgaaGreatDoorLSendF2
noncomputable section
namespace Go.AE.F
open Go.AE
def zDD.l3 {R:Type} (N:Nat) (d:Bool×List Int×Int×Int×(List Int×Int×Int×Unit)×(Int×Int×Int×(List ((List Int×Int×Unit)×Int×Int×Unit))×Bool×(List (Int×Int×Unit))×Unit)×Unit) (kn:Bool×List Int×Int×Int×(List Int×Int×Int×Unit)×(Int×Int×Int×(List ((List Int×Int×Unit)×Int×Int×Unit))×Bool×(List (Int×Int×Unit))×Unit)×Unit->Option R) (kx:Bool×(List Int×Int×Int×Unit)×(Int×Int×Int×(List ((List Int×Int×Unit)×Int×Int×Unit))×Bool×(List (Int×Int×Unit))×Unit)×Unit->Option R):Option R :=
 let x64:=d.1;
 let x65:=d.2.1;
 let x66:=d.2.2.1;
 let x67:=d.2.2.2.1;
 let x68:=d.2.2.2.2.1;
 let x69:=d.2.2.2.2.2.1;
 ifB (pLt x67 x66) (
 bindO (idx x65 x67) fun y70 =>
 bindO (zCW N x69 y70 0) fun y71 =>
 kn (x64,x65,x66,(pAdd .i64 x67 1),x68,y71,())) (
 kx (x64,x68,x69,()))
def zDD.l9 {R:Type} (N:Nat) (d:Bool×Int×Int×List Int×Int×Int×(Int×Int×Int×(List ((List Int×Int×Unit)×Int×Int×Unit))×Bool×(List (Int×Int×Unit))×Unit)×Unit) (kn:Bool×Int×Int×List Int×Int×Int×(Int×Int×Int×(List ((List Int×Int×Unit)×Int×Int×Unit))×Bool×(List (Int×Int×Unit))×Unit)×Unit->Option R) (kx:(Int×Int×Int×(List ((List Int×Int×Unit)×Int×Int×Unit))×Bool×(List (Int×Int×Unit))×Unit)×Unit->Option R):Option R :=
 let x76:=d.1;
 let x77:=d.2.1;
 let x78:=d.2.2.1;
 let x79:=d.2.2.2.1;
 let x80:=d.2.2.2.2.1;
 let x81:=d.2.2.2.2.2.1;
 let x82:=d.2.2.2.2.2.2.1;
 ifB (pLt x81 x80) (
 bindO (A:=Bool×Int×Int×List Int×Int×Int×(Int×Int×Int×(List ((List Int×Int×Unit)×Int×Int×Unit))×Bool×(List (Int×Int×Unit))×Unit)×Unit) (
 bindO (idx x79 x81) fun y83 =>
 bindO (zDJ N x82) fun y84 =>
 ifB (pFit x82.2.2.2.2.2.1 [y84]) (
 bindO (
 ifB x76 (
 bindO (zBA N x81 x77 (pSub .i64 x78 1)) fun y86 =>
 some y86) (
 some false)) fun y85 =>
 ifB y85 (
 bindO (zCW N (x82.1,(x82.2.1,(x82.2.2.1,(x82.2.2.2.1,(x82.2.2.2.2.1,((pApp x82.2.2.2.2.2.1 [y84]),x82.2.2.2.2.2.2)))))) y83 1) fun y87 =>
 some (x76,x77,x78,x79,x80,x81,y87,())) (
 bindO (zCW N (x82.1,(x82.2.1,(x82.2.2.1,(x82.2.2.2.1,(x82.2.2.2.2.1,((pApp x82.2.2.2.2.2.1 [y84]),x82.2.2.2.2.2.2)))))) y83 0) fun y88 =>
 some (x76,x77,x78,x79,x80,x81,y88,()))) (
 none)) (
 fun d =>
 let x89:=d.1;
 let x90:=d.2.1;
 let x91:=d.2.2.1;
 let x92:=d.2.2.2.1;
 let x93:=d.2.2.2.2.1;
 let x94:=d.2.2.2.2.2.1;
 let x95:=d.2.2.2.2.2.2.1;
 kn (x89,x90,x91,x92,x93,(pAdd .i64 x94 1),x95,()))) (
 kx (x82,()))
def zDD (N:Nat) (a0:List (Int)) (a1:List (Int)×Int×Int×Unit) (a2:Bool) (a3:Int):Option (Int×Int×Int×(List ((List Int×Int×Unit)×Int×Int×Unit))×Bool×(List (Int×Int×Unit))×Unit) :=
 loopP (zDD.l3 N) N (a2,a0,(pLen a0),0,a1,(a3,(0,(0,([],(false,([],())))))),()) (
 fun d =>
 let x72:=d.1;
 let x73:=d.2.1;
 let x74:=d.2.2.1;
 bindO (zEZ N x73) fun y75 =>
 loopP (zDD.l9 N) N (x72,y75.1,y75.2,x73.1,(pLen x73.1),0,x74,()) (
 fun d =>
 let x96:=d.1;
 bindO (zDJ N x96) fun y97 =>
 ifB (pFit x96.2.2.2.2.2.1 [y97]) (
 some (x96.1,(x96.2.1,(x96.2.2.1,(x96.2.2.2.1,(x96.2.2.2.2.1,((pApp x96.2.2.2.2.2.1 [y97]),x96.2.2.2.2.2.2))))))) (
 none)))
def zC7 (N:Nat) (a0:Int) (a1:Int):Option (Bool) :=
 bindO (
 ifB (pGe a0 1) (
 some (pLe a0 24)) (
 some false)) fun y3 =>
 bindO (
 ifB y3 (
 some (pGe a1 2)) (
 some false)) fun y4 =>
 bindO (
 ifB y4 (
 some (pLe a1 80)) (
 some false)) fun y5 =>
 some y5
def zBG (N:Nat) (a0:Int×(List (List (List (Int)×Int×Unit)))×Int×Unit):Option (Int×(List (List (List Int×Int×Unit)))×Int×Unit) :=
 ifB (pEq a0.1 a0.1) (
 ifB (pLe 0 a0.1) (
 ifB (pLe a0.1 68719476736) (
 ifB (pFit a0.2.1 [(pRepl a0.1 ([],(0,())))]) (
 some (a0.1,((pApp a0.2.1 [(pRepl a0.1 ([],(0,())))]),(0,a0.2.2.2)))) (
 none)) (
 none)) (
 none)) (
 none)
def zCJ (N:Nat) (a0:Int):Option (List Int) :=
 bindO (
 ifB (pLt a0 32) (
 some true) (
 some (pEq a0 127))) fun y1 =>
 ifB y1 (
 some [94,(pXor .i64 a0 64)]) (
 some [a0])
def zC3 (N:Nat) (a0:Int):Option (Int) :=
 bindO (zBQ N a0) fun y16 =>
 bindO (
 ifB (pNot y16) (
 some true) (
 bindO (
 ifB (pGe a0 768) (
 some (pLe a0 879)) (
 some false)) fun y18 =>
 some y18)) fun y17 =>
 ifB y17 (
 some 0) (
 bindO (
 ifB (pLt a0 32) (
 some true) (
 some (pEq a0 127))) fun y19 =>
 bindO (
 ifB y19 (
 some true) (
 bindO (
 ifB (pGe a0 4352) (
 some (pLe a0 4447)) (
 some false)) fun y21 =>
 some y21)) fun y20 =>
 bindO (
 ifB y20 (
 some true) (
 bindO (
 ifB (pGe a0 11904) (
 some (pLe a0 42191)) (
 some false)) fun y23 =>
 some y23)) fun y22 =>
 bindO (
 ifB y22 (
 some true) (
 bindO (
 ifB (pGe a0 44032) (
 some (pLe a0 55203)) (
 some false)) fun y25 =>
 some y25)) fun y24 =>
 bindO (
 ifB y24 (
 some true) (
 bindO (
 ifB (pGe a0 63744) (
 some (pLe a0 64255)) (
 some false)) fun y27 =>
 some y27)) fun y26 =>
 bindO (
 ifB y26 (
 some true) (
 bindO (
 ifB (pGe a0 65281) (
 some (pLe a0 65376)) (
 some false)) fun y29 =>
 some y29)) fun y28 =>
 bindO (
 ifB y28 (
 some true) (
 bindO (
 ifB (pGe a0 127744) (
 some (pLe a0 129791)) (
 some false)) fun y31 =>
 some y31)) fun y30 =>
 ifB y30 (
 some 2) (
 some 1))
def zC2 (N:Nat) (a0:List (Int)×Int×Unit):Option (Bool) :=
 bindO (
 ifB (pGt (pLen a0.1) 0) (
 bindO (idx a0.1 0) fun y4 =>
 bindO (zC3 N y4) fun y5 =>
 some (pEq y5 2)) (
 some false)) fun y3 =>
 some y3
def zBX (N:Nat) (a0:Int×(List (List (List (Int)×Int×Unit)))×Int×Unit) (a1:Int) (a2:Int):Option (Int×(List (List (List Int×Int×Unit)))×Int×Unit) :=
 bindO (zC3 N a1) fun y80 =>
 bindO (idx a0.2.1 (pSub .i64 (pLen a0.2.1) 1)) fun y81 =>
 bindO (idx a0.2.1 (pSub .i64 (pLen a0.2.1) 1)) fun y82 =>
 ifB (pEq y80 0) (
 bindO (
 ifB (pGt (pSub .i64 a0.2.2.1 1) 0) (
 bindO (idx a0.2.1 (pSub .i64 (pLen a0.2.1) 1)) fun y84 =>
 bindO (idx y84 (pSub .i64 (pSub .i64 a0.2.2.1 1) 1)) fun y85 =>
 bindO (idx a0.2.1 (pSub .i64 (pLen a0.2.1) 1)) fun y86 =>
 bindO (idx y86 (pSub .i64 (pSub .i64 a0.2.2.1 1) 1)) fun y87 =>
 bindO (idx a0.2.1 (pSub .i64 (pLen a0.2.1) 1)) fun y88 =>
 bindO (idx y88 (pSub .i64 (pSub .i64 a0.2.2.1 1) 1)) fun y89 =>
 bindO (zC2 N y89) fun y90 =>
 some y90) (
 some false)) fun y83 =>
 ifB y83 (
 bindO (
 ifB (pGe (pSub .i64 (pSub .i64 a0.2.2.1 1) 1) 0) (
 bindO (idx a0.2.1 (pSub .i64 (pLen a0.2.1) 1)) fun y92 =>
 bindO (idx y92 (pSub .i64 (pSub .i64 a0.2.2.1 1) 1)) fun y93 =>
 bindO (idx a0.2.1 (pSub .i64 (pLen a0.2.1) 1)) fun y94 =>
 bindO (idx y94 (pSub .i64 (pSub .i64 a0.2.2.1 1) 1)) fun y95 =>
 bindO (idx a0.2.1 (pSub .i64 (pLen a0.2.1) 1)) fun y96 =>
 bindO (idx y96 (pSub .i64 (pSub .i64 a0.2.2.1 1) 1)) fun y97 =>
 some (pGt (pLen y97.1) 0)) (
 some false)) fun y91 =>
 bindO (
 ifB y91 (
 bindO (idx a0.2.1 (pSub .i64 (pLen a0.2.1) 1)) fun y99 =>
 bindO (idx y99 (pSub .i64 (pSub .i64 a0.2.2.1 1) 1)) fun y100 =>
 bindO (idx a0.2.1 (pSub .i64 (pLen a0.2.1) 1)) fun y101 =>
 bindO (idx y101 (pSub .i64 (pSub .i64 a0.2.2.1 1) 1)) fun y102 =>
 bindO (idx a0.2.1 (pSub .i64 (pLen a0.2.1) 1)) fun y103 =>
 bindO (idx y103 (pSub .i64 (pSub .i64 a0.2.2.1 1) 1)) fun y104 =>
 some (pLt (pLen y104.1) 4)) (
 some false)) fun y98 =>
 ifB y98 (
 bindO (idx a0.2.1 (pSub .i64 (pLen a0.2.1) 1)) fun y105 =>
 bindO (idx y105 (pSub .i64 (pSub .i64 a0.2.2.1 1) 1)) fun y106 =>
 bindO (idx a0.2.1 (pSub .i64 (pLen a0.2.1) 1)) fun y107 =>
 bindO (idx y107 (pSub .i64 (pSub .i64 a0.2.2.1 1) 1)) fun y108 =>
 bindO (idx a0.2.1 (pSub .i64 (pLen a0.2.1) 1)) fun y109 =>
 bindO (idx y109 (pSub .i64 (pSub .i64 a0.2.2.1 1) 1)) fun y110 =>
 bindO (zC1 N y110.1) fun y111 =>
 ifB (pFit y111 [a1]) (
 bindO (idx a0.2.1 (pSub .i64 (pLen a0.2.1) 1)) fun y112 =>
 bindO (idx y112 (pSub .i64 (pSub .i64 a0.2.2.1 1) 1)) fun y113 =>
 bindO (idx a0.2.1 (pSub .i64 (pLen a0.2.1) 1)) fun y114 =>
 bindO (idx y114 (pSub .i64 (pSub .i64 a0.2.2.1 1) 1)) fun y115 =>
 some (a0.1,((pSet a0.2.1 (pSub .i64 (pLen a0.2.1) 1) (pSet y114 (pSub .i64 (pSub .i64 a0.2.2.1 1) 1) ((pApp y111 [a1]),y115.2))),a0.2.2))) (
 none)) (
 some a0)) (
 bindO (
 ifB (pGe (pSub .i64 a0.2.2.1 1) 0) (
 bindO (idx a0.2.1 (pSub .i64 (pLen a0.2.1) 1)) fun y117 =>
 bindO (idx y117 (pSub .i64 a0.2.2.1 1)) fun y118 =>
 bindO (idx a0.2.1 (pSub .i64 (pLen a0.2.1) 1)) fun y119 =>
 bindO (idx y119 (pSub .i64 a0.2.2.1 1)) fun y120 =>
 bindO (idx a0.2.1 (pSub .i64 (pLen a0.2.1) 1)) fun y121 =>
 bindO (idx y121 (pSub .i64 a0.2.2.1 1)) fun y122 =>
 some (pGt (pLen y122.1) 0)) (
 some false)) fun y116 =>
 bindO (
 ifB y116 (
 bindO (idx a0.2.1 (pSub .i64 (pLen a0.2.1) 1)) fun y124 =>
 bindO (idx y124 (pSub .i64 a0.2.2.1 1)) fun y125 =>
 bindO (idx a0.2.1 (pSub .i64 (pLen a0.2.1) 1)) fun y126 =>
 bindO (idx y126 (pSub .i64 a0.2.2.1 1)) fun y127 =>
 bindO (idx a0.2.1 (pSub .i64 (pLen a0.2.1) 1)) fun y128 =>
 bindO (idx y128 (pSub .i64 a0.2.2.1 1)) fun y129 =>
 some (pLt (pLen y129.1) 4)) (
 some false)) fun y123 =>
 ifB y123 (
 bindO (idx a0.2.1 (pSub .i64 (pLen a0.2.1) 1)) fun y130 =>
 bindO (idx y130 (pSub .i64 a0.2.2.1 1)) fun y131 =>
 bindO (idx a0.2.1 (pSub .i64 (pLen a0.2.1) 1)) fun y132 =>
 bindO (idx y132 (pSub .i64 a0.2.2.1 1)) fun y133 =>
 bindO (idx a0.2.1 (pSub .i64 (pLen a0.2.1) 1)) fun y134 =>
 bindO (idx y134 (pSub .i64 a0.2.2.1 1)) fun y135 =>
 bindO (zC1 N y135.1) fun y136 =>
 ifB (pFit y136 [a1]) (
 bindO (idx a0.2.1 (pSub .i64 (pLen a0.2.1) 1)) fun y137 =>
 bindO (idx y137 (pSub .i64 a0.2.2.1 1)) fun y138 =>
 bindO (idx a0.2.1 (pSub .i64 (pLen a0.2.1) 1)) fun y139 =>
 bindO (idx y139 (pSub .i64 a0.2.2.1 1)) fun y140 =>
 some (a0.1,((pSet a0.2.1 (pSub .i64 (pLen a0.2.1) 1) (pSet y139 (pSub .i64 a0.2.2.1 1) ((pApp y136 [a1]),y140.2))),a0.2.2))) (
 none)) (
 some a0))) (
 ifB (pLt (pSub .i64 a0.1 a0.2.2.1) y80) (
 bindO (zBG N a0) fun y141 =>
 bindO (idx y141.2.1 (pSub .i64 (pLen y141.2.1) 1)) fun y142 =>
 bindO (idx y141.2.1 (pSub .i64 (pLen y141.2.1) 1)) fun y143 =>
 bindO (idx y141.2.1 (pSub .i64 (pLen y141.2.1) 1)) fun y144 =>
 bindO (idx y144 y141.2.2.1) fun y145 =>
 bindO (idx y141.2.1 (pSub .i64 (pLen y141.2.1) 1)) fun y146 =>
 bindO (idx y146 y141.2.2.1) fun y147 =>
 ifB (pEq y80 2) (
 bindO (idx (pSet y141.2.1 (pSub .i64 (pLen y141.2.1) 1) (pSet y146 y141.2.2.1 ([a1],(a2,())))) (pSub .i64 (pLen y141.2.1) 1)) fun y148 =>
 bindO (idx y148 (pAdd .i64 y141.2.2.1 1)) fun y149 =>
 bindO (idx (pSet y141.2.1 (pSub .i64 (pLen y141.2.1) 1) (pSet y146 y141.2.2.1 ([a1],(a2,())))) (pSub .i64 (pLen y141.2.1) 1)) fun y150 =>
 bindO (idx y150 (pAdd .i64 y141.2.2.1 1)) fun y151 =>
 some (y141.1,((pSet (pSet y141.2.1 (pSub .i64 (pLen y141.2.1) 1) (pSet y146 y141.2.2.1 ([a1],(a2,())))) (pSub .i64 (pLen y141.2.1) 1) (pSet y150 (pAdd .i64 y141.2.2.1 1) ([],(a2,())))),((pAdd .i64 y141.2.2.1 y80),y141.2.2.2)))) (
 some (y141.1,((pSet y141.2.1 (pSub .i64 (pLen y141.2.1) 1) (pSet y146 y141.2.2.1 ([a1],(a2,())))),((pAdd .i64 y141.2.2.1 y80),y141.2.2.2))))) (
 bindO (idx a0.2.1 (pSub .i64 (pLen a0.2.1) 1)) fun y152 =>
 bindO (idx y152 a0.2.2.1) fun y153 =>
 bindO (idx a0.2.1 (pSub .i64 (pLen a0.2.1) 1)) fun y154 =>
 bindO (idx y154 a0.2.2.1) fun y155 =>
 ifB (pEq y80 2) (
 bindO (idx (pSet a0.2.1 (pSub .i64 (pLen a0.2.1) 1) (pSet y154 a0.2.2.1 ([a1],(a2,())))) (pSub .i64 (pLen a0.2.1) 1)) fun y156 =>
 bindO (idx y156 (pAdd .i64 a0.2.2.1 1)) fun y157 =>
 bindO (idx (pSet a0.2.1 (pSub .i64 (pLen a0.2.1) 1) (pSet y154 a0.2.2.1 ([a1],(a2,())))) (pSub .i64 (pLen a0.2.1) 1)) fun y158 =>
 bindO (idx y158 (pAdd .i64 a0.2.2.1 1)) fun y159 =>
 some (a0.1,((pSet (pSet a0.2.1 (pSub .i64 (pLen a0.2.1) 1) (pSet y154 a0.2.2.1 ([a1],(a2,())))) (pSub .i64 (pLen a0.2.1) 1) (pSet y158 (pAdd .i64 a0.2.2.1 1) ([],(a2,())))),((pAdd .i64 a0.2.2.1 y80),a0.2.2.2)))) (
 some (a0.1,((pSet a0.2.1 (pSub .i64 (pLen a0.2.1) 1) (pSet y154 a0.2.2.1 ([a1],(a2,())))),((pAdd .i64 a0.2.2.1 y80),a0.2.2.2))))))
def zAB.l4 {R:Type} (N:Nat) (d:Int×Int×(Int×(List (List (List Int×Int×Unit)))×Int×Unit)×List Int×Unit) (kn:Int×Int×(Int×(List (List (List Int×Int×Unit)))×Int×Unit)×List Int×Unit->Option R) (kx:(Int×(List (List (List Int×Int×Unit)))×Int×Unit)×Unit->Option R):Option R :=
 let x22:=d.1;
 let x23:=d.2.1;
 let x24:=d.2.2.1;
 let x25:=d.2.2.2.1;
 ifB (pLt x23 (pLen x25)) (
 bindO (idx x25 x23) fun y26 =>
 bindO (idx x25 x23) fun y27 =>
 bindO (zBX N x24 y27 x22) fun y28 =>
 kn (x22,(pAdd .i64 x23 1),y28,x25,())) (
 kx (x24,()))
def zAB (N:Nat) (a0:Int×(List (List (List (Int)×Int×Unit)))×Int×Unit) (a1:Int) (a2:Int):Option (Int×(List (List (List Int×Int×Unit)))×Int×Unit) :=
 ifB (pEq a1 10) (
 bindO (zBG N a0) fun y20 =>
 some y20) (
 bindO (zCJ N a1) fun y21 =>
 loopP (zAB.l4 N) N (a2,0,a0,y21,()) (
 fun d =>
 let x29:=d.1;
 some x29))
def zBM (N:Nat) (a0:Int×(List (List (List (Int)×Int×Unit)))×Int×Unit):Option (Int×Int×Unit) :=
 ifB (pGe a0.2.2.1 a0.1) (
 some ((pAdd .i64 (pSub .i64 (pLen a0.2.1) 1) 1),(0,()))) (
 some ((pSub .i64 (pLen a0.2.1) 1),(a0.2.2.1,())))
def zAK.l4 {R:Type} (N:Nat) (d:List Int×Bool×Int×(List Int×Int×Int×Unit)×(Int×(List (List (List Int×Int×Unit)))×Int×Unit)×Unit) (kn:List Int×Bool×Int×(List Int×Int×Int×Unit)×(Int×(List (List (List Int×Int×Unit)))×Int×Unit)×Unit->Option R) (kx:Bool×(List Int×Int×Int×Unit)×(Int×(List (List (List Int×Int×Unit)))×Int×Unit)×Unit->Option R):Option R :=
 let x70:=d.1;
 let x71:=d.2.1;
 let x72:=d.2.2.1;
 let x73:=d.2.2.2.1;
 let x74:=d.2.2.2.2.1;
 ifB (pLt x72 (pLen x70)) (
 bindO (idx x70 x72) fun y75 =>
 bindO (zAB N x74 y75 0) fun y76 =>
 kn (x70,x71,(pAdd .i64 x72 1),x73,y76,())) (
 kx (x71,x73,x74,()))
end Go.AE.F
end
