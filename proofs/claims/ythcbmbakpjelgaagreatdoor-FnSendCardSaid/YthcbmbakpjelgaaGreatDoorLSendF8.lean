/- Functions as they are printed out of the program: plain Lean, nothing is claimed here. -/
import Derived.Test.YthcbmbakpjelgaaGreatDoorLSendF7
noncomputable section
namespace Go.AE.F
open Go.AE
def zC4 (N:Nat) (a0:(Int×Int×(List (List (Int)×Int×Unit))×Int×Int×Bool×Int×Unit)×Unit) (a1:Int):Option ((Int×Int×(List (List Int×Int×Unit))×Int×Int×Bool×Int×Unit)×Unit) :=
 bindO (zC3 N a1) fun y69 =>
 ifB (pEq y69 0) (
 ifB (pNot a0.1.2.2.2.2.2.1) (
 ifB (pEq a0.1.2.2.2.2.1 0) (
 some a0) (
 bindO (zCA N a0.1 (pSub .i64 (pAdd .i64 (pMul .i64 a0.1.2.2.2.1 a0.1.2.1) a0.1.2.2.2.2.1) 1)) fun y70 =>
 ifB y70 (
 bindO (idx a0.1.2.2.1 (pSub .i64 (pSub .i64 (pAdd .i64 (pMul .i64 a0.1.2.2.2.1 a0.1.2.1) a0.1.2.2.2.2.1) 1) 1)) fun y71 =>
 bindO (idx a0.1.2.2.1 (pSub .i64 (pSub .i64 (pAdd .i64 (pMul .i64 a0.1.2.2.2.1 a0.1.2.1) a0.1.2.2.2.2.1) 1) 1)) fun y72 =>
 bindO (
 ifB (pGt (pLen y72.1) 0) (
 some (pLt (pLen y72.1) 4)) (
 some false)) fun y73 =>
 ifB y73 (
 bindO (idx a0.1.2.2.1 (pSub .i64 (pSub .i64 (pAdd .i64 (pMul .i64 a0.1.2.2.2.1 a0.1.2.1) a0.1.2.2.2.2.1) 1) 1)) fun y74 =>
 bindO (idx a0.1.2.2.1 (pSub .i64 (pSub .i64 (pAdd .i64 (pMul .i64 a0.1.2.2.2.1 a0.1.2.1) a0.1.2.2.2.2.1) 1) 1)) fun y75 =>
 bindO (zC1 N y75.1) fun y76 =>
 ifB (pFit y76 [a1]) (
 bindO (idx a0.1.2.2.1 (pSub .i64 (pSub .i64 (pAdd .i64 (pMul .i64 a0.1.2.2.2.1 a0.1.2.1) a0.1.2.2.2.2.1) 1) 1)) fun y77 =>
 bindO (idx a0.1.2.2.1 (pSub .i64 (pSub .i64 (pAdd .i64 (pMul .i64 a0.1.2.2.2.1 a0.1.2.1) a0.1.2.2.2.2.1) 1) 1)) fun y78 =>
 some ((a0.1.1,(a0.1.2.1,((pSet a0.1.2.2.1 (pSub .i64 (pSub .i64 (pAdd .i64 (pMul .i64 a0.1.2.2.2.1 a0.1.2.1) a0.1.2.2.2.2.1) 1) 1) ((pApp y76 [a1]),y78.2)),a0.1.2.2.2))),a0.2)) (
 none)) (
 some a0)) (
 bindO (idx a0.1.2.2.1 (pSub .i64 (pAdd .i64 (pMul .i64 a0.1.2.2.2.1 a0.1.2.1) a0.1.2.2.2.2.1) 1)) fun y79 =>
 bindO (idx a0.1.2.2.1 (pSub .i64 (pAdd .i64 (pMul .i64 a0.1.2.2.2.1 a0.1.2.1) a0.1.2.2.2.2.1) 1)) fun y80 =>
 bindO (
 ifB (pGt (pLen y80.1) 0) (
 some (pLt (pLen y80.1) 4)) (
 some false)) fun y81 =>
 ifB y81 (
 bindO (idx a0.1.2.2.1 (pSub .i64 (pAdd .i64 (pMul .i64 a0.1.2.2.2.1 a0.1.2.1) a0.1.2.2.2.2.1) 1)) fun y82 =>
 bindO (idx a0.1.2.2.1 (pSub .i64 (pAdd .i64 (pMul .i64 a0.1.2.2.2.1 a0.1.2.1) a0.1.2.2.2.2.1) 1)) fun y83 =>
 bindO (zC1 N y83.1) fun y84 =>
 ifB (pFit y84 [a1]) (
 bindO (idx a0.1.2.2.1 (pSub .i64 (pAdd .i64 (pMul .i64 a0.1.2.2.2.1 a0.1.2.1) a0.1.2.2.2.2.1) 1)) fun y85 =>
 bindO (idx a0.1.2.2.1 (pSub .i64 (pAdd .i64 (pMul .i64 a0.1.2.2.2.1 a0.1.2.1) a0.1.2.2.2.2.1) 1)) fun y86 =>
 some ((a0.1.1,(a0.1.2.1,((pSet a0.1.2.2.1 (pSub .i64 (pAdd .i64 (pMul .i64 a0.1.2.2.2.1 a0.1.2.1) a0.1.2.2.2.2.1) 1) ((pApp y84 [a1]),y86.2)),a0.1.2.2.2))),a0.2)) (
 none)) (
 some a0)))) (
 bindO (zCA N a0.1 (pAdd .i64 (pMul .i64 a0.1.2.2.2.1 a0.1.2.1) a0.1.2.2.2.2.1)) fun y87 =>
 ifB y87 (
 bindO (idx a0.1.2.2.1 (pSub .i64 (pAdd .i64 (pMul .i64 a0.1.2.2.2.1 a0.1.2.1) a0.1.2.2.2.2.1) 1)) fun y88 =>
 bindO (idx a0.1.2.2.1 (pSub .i64 (pAdd .i64 (pMul .i64 a0.1.2.2.2.1 a0.1.2.1) a0.1.2.2.2.2.1) 1)) fun y89 =>
 bindO (
 ifB (pGt (pLen y89.1) 0) (
 some (pLt (pLen y89.1) 4)) (
 some false)) fun y90 =>
 ifB y90 (
 bindO (idx a0.1.2.2.1 (pSub .i64 (pAdd .i64 (pMul .i64 a0.1.2.2.2.1 a0.1.2.1) a0.1.2.2.2.2.1) 1)) fun y91 =>
 bindO (idx a0.1.2.2.1 (pSub .i64 (pAdd .i64 (pMul .i64 a0.1.2.2.2.1 a0.1.2.1) a0.1.2.2.2.2.1) 1)) fun y92 =>
 bindO (zC1 N y92.1) fun y93 =>
 ifB (pFit y93 [a1]) (
 bindO (idx a0.1.2.2.1 (pSub .i64 (pAdd .i64 (pMul .i64 a0.1.2.2.2.1 a0.1.2.1) a0.1.2.2.2.2.1) 1)) fun y94 =>
 bindO (idx a0.1.2.2.1 (pSub .i64 (pAdd .i64 (pMul .i64 a0.1.2.2.2.1 a0.1.2.1) a0.1.2.2.2.2.1) 1)) fun y95 =>
 some ((a0.1.1,(a0.1.2.1,((pSet a0.1.2.2.1 (pSub .i64 (pAdd .i64 (pMul .i64 a0.1.2.2.2.1 a0.1.2.1) a0.1.2.2.2.2.1) 1) ((pApp y93 [a1]),y95.2)),a0.1.2.2.2))),a0.2)) (
 none)) (
 some a0)) (
 bindO (idx a0.1.2.2.1 (pAdd .i64 (pMul .i64 a0.1.2.2.2.1 a0.1.2.1) a0.1.2.2.2.2.1)) fun y96 =>
 bindO (idx a0.1.2.2.1 (pAdd .i64 (pMul .i64 a0.1.2.2.2.1 a0.1.2.1) a0.1.2.2.2.2.1)) fun y97 =>
 bindO (
 ifB (pGt (pLen y97.1) 0) (
 some (pLt (pLen y97.1) 4)) (
 some false)) fun y98 =>
 ifB y98 (
 bindO (idx a0.1.2.2.1 (pAdd .i64 (pMul .i64 a0.1.2.2.2.1 a0.1.2.1) a0.1.2.2.2.2.1)) fun y99 =>
 bindO (idx a0.1.2.2.1 (pAdd .i64 (pMul .i64 a0.1.2.2.2.1 a0.1.2.1) a0.1.2.2.2.2.1)) fun y100 =>
 bindO (zC1 N y100.1) fun y101 =>
 ifB (pFit y101 [a1]) (
 bindO (idx a0.1.2.2.1 (pAdd .i64 (pMul .i64 a0.1.2.2.2.1 a0.1.2.1) a0.1.2.2.2.2.1)) fun y102 =>
 bindO (idx a0.1.2.2.1 (pAdd .i64 (pMul .i64 a0.1.2.2.2.1 a0.1.2.1) a0.1.2.2.2.2.1)) fun y103 =>
 some ((a0.1.1,(a0.1.2.1,((pSet a0.1.2.2.1 (pAdd .i64 (pMul .i64 a0.1.2.2.2.1 a0.1.2.1) a0.1.2.2.2.2.1) ((pApp y101 [a1]),y103.2)),a0.1.2.2.2))),a0.2)) (
 none)) (
 some a0)))) (
 ifB a0.1.2.2.2.2.2.1 (
 bindO (zBK N ((a0.1.1,(a0.1.2.1,(a0.1.2.2.1,(a0.1.2.2.2.1,(0,a0.1.2.2.2.2.2))))),a0.2)) fun y104 =>
 bindO (zB8 N y104 (pAdd .i64 (pMul .i64 y104.1.2.2.2.1 y104.1.2.1) y104.1.2.2.2.2.1)) fun y105 =>
 ifB (pEq y69 2) (
 bindO (zB8 N y105 (pAdd .i64 (pAdd .i64 (pMul .i64 y104.1.2.2.2.1 y104.1.2.1) y104.1.2.2.2.2.1) 1)) fun y106 =>
 bindO (idx y106.1.2.2.1 (pAdd .i64 (pAdd .i64 (pMul .i64 y104.1.2.2.2.1 y104.1.2.1) y104.1.2.2.2.2.1) 1)) fun y107 =>
 bindO (idx y106.1.2.2.1 (pAdd .i64 (pAdd .i64 (pMul .i64 y104.1.2.2.2.1 y104.1.2.1) y104.1.2.2.2.2.1) 1)) fun y108 =>
 bindO (idx (pSet y106.1.2.2.1 (pAdd .i64 (pAdd .i64 (pMul .i64 y104.1.2.2.2.1 y104.1.2.1) y104.1.2.2.2.2.1) 1) ([],(y106.1.2.2.2.2.2.2.1,()))) (pAdd .i64 (pMul .i64 y104.1.2.2.2.1 y104.1.2.1) y104.1.2.2.2.2.1)) fun y109 =>
 bindO (idx (pSet y106.1.2.2.1 (pAdd .i64 (pAdd .i64 (pMul .i64 y104.1.2.2.2.1 y104.1.2.1) y104.1.2.2.2.2.1) 1) ([],(y106.1.2.2.2.2.2.2.1,()))) (pAdd .i64 (pMul .i64 y104.1.2.2.2.1 y104.1.2.1) y104.1.2.2.2.2.1)) fun y110 =>
 ifB (pGe (pAdd .i64 y106.1.2.2.2.2.1 y69) y106.1.2.1) (
 some ((y106.1.1,(y106.1.2.1,((pSet (pSet y106.1.2.2.1 (pAdd .i64 (pAdd .i64 (pMul .i64 y104.1.2.2.2.1 y104.1.2.1) y104.1.2.2.2.2.1) 1) ([],(y106.1.2.2.2.2.2.2.1,()))) (pAdd .i64 (pMul .i64 y104.1.2.2.2.1 y104.1.2.1) y104.1.2.2.2.2.1) ([a1],(y106.1.2.2.2.2.2.2.1,()))),(y106.1.2.2.2.1,((pSub .i64 y106.1.2.1 1),(true,y106.1.2.2.2.2.2.2)))))),y106.2)) (
 some ((y106.1.1,(y106.1.2.1,((pSet (pSet y106.1.2.2.1 (pAdd .i64 (pAdd .i64 (pMul .i64 y104.1.2.2.2.1 y104.1.2.1) y104.1.2.2.2.2.1) 1) ([],(y106.1.2.2.2.2.2.2.1,()))) (pAdd .i64 (pMul .i64 y104.1.2.2.2.1 y104.1.2.1) y104.1.2.2.2.2.1) ([a1],(y106.1.2.2.2.2.2.2.1,()))),(y106.1.2.2.2.1,((pAdd .i64 y106.1.2.2.2.2.1 y69),y106.1.2.2.2.2.2))))),y106.2))) (
 bindO (idx y105.1.2.2.1 (pAdd .i64 (pMul .i64 y104.1.2.2.2.1 y104.1.2.1) y104.1.2.2.2.2.1)) fun y111 =>
 bindO (idx y105.1.2.2.1 (pAdd .i64 (pMul .i64 y104.1.2.2.2.1 y104.1.2.1) y104.1.2.2.2.2.1)) fun y112 =>
 ifB (pGe (pAdd .i64 y105.1.2.2.2.2.1 y69) y105.1.2.1) (
 some ((y105.1.1,(y105.1.2.1,((pSet y105.1.2.2.1 (pAdd .i64 (pMul .i64 y104.1.2.2.2.1 y104.1.2.1) y104.1.2.2.2.2.1) ([a1],(y105.1.2.2.2.2.2.2.1,()))),(y105.1.2.2.2.1,((pSub .i64 y105.1.2.1 1),(true,y105.1.2.2.2.2.2.2)))))),y105.2)) (
 some ((y105.1.1,(y105.1.2.1,((pSet y105.1.2.2.1 (pAdd .i64 (pMul .i64 y104.1.2.2.2.1 y104.1.2.1) y104.1.2.2.2.2.1) ([a1],(y105.1.2.2.2.2.2.2.1,()))),(y105.1.2.2.2.1,((pAdd .i64 y105.1.2.2.2.2.1 y69),y105.1.2.2.2.2.2))))),y105.2)))) (
 ifB (pEq y69 2) (
 ifB (pEq a0.1.2.2.2.2.1 (pSub .i64 a0.1.2.1 1)) (
 bindO (zBK N ((a0.1.1,(a0.1.2.1,(a0.1.2.2.1,(a0.1.2.2.2.1,(0,a0.1.2.2.2.2.2))))),a0.2)) fun y113 =>
 bindO (zB8 N y113 (pAdd .i64 (pMul .i64 y113.1.2.2.2.1 y113.1.2.1) y113.1.2.2.2.2.1)) fun y114 =>
 ifB (pEq y69 2) (
 bindO (zB8 N y114 (pAdd .i64 (pAdd .i64 (pMul .i64 y113.1.2.2.2.1 y113.1.2.1) y113.1.2.2.2.2.1) 1)) fun y115 =>
 bindO (idx y115.1.2.2.1 (pAdd .i64 (pAdd .i64 (pMul .i64 y113.1.2.2.2.1 y113.1.2.1) y113.1.2.2.2.2.1) 1)) fun y116 =>
 bindO (idx y115.1.2.2.1 (pAdd .i64 (pAdd .i64 (pMul .i64 y113.1.2.2.2.1 y113.1.2.1) y113.1.2.2.2.2.1) 1)) fun y117 =>
 bindO (idx (pSet y115.1.2.2.1 (pAdd .i64 (pAdd .i64 (pMul .i64 y113.1.2.2.2.1 y113.1.2.1) y113.1.2.2.2.2.1) 1) ([],(y115.1.2.2.2.2.2.2.1,()))) (pAdd .i64 (pMul .i64 y113.1.2.2.2.1 y113.1.2.1) y113.1.2.2.2.2.1)) fun y118 =>
 bindO (idx (pSet y115.1.2.2.1 (pAdd .i64 (pAdd .i64 (pMul .i64 y113.1.2.2.2.1 y113.1.2.1) y113.1.2.2.2.2.1) 1) ([],(y115.1.2.2.2.2.2.2.1,()))) (pAdd .i64 (pMul .i64 y113.1.2.2.2.1 y113.1.2.1) y113.1.2.2.2.2.1)) fun y119 =>
 ifB (pGe (pAdd .i64 y115.1.2.2.2.2.1 y69) y115.1.2.1) (
 some ((y115.1.1,(y115.1.2.1,((pSet (pSet y115.1.2.2.1 (pAdd .i64 (pAdd .i64 (pMul .i64 y113.1.2.2.2.1 y113.1.2.1) y113.1.2.2.2.2.1) 1) ([],(y115.1.2.2.2.2.2.2.1,()))) (pAdd .i64 (pMul .i64 y113.1.2.2.2.1 y113.1.2.1) y113.1.2.2.2.2.1) ([a1],(y115.1.2.2.2.2.2.2.1,()))),(y115.1.2.2.2.1,((pSub .i64 y115.1.2.1 1),(true,y115.1.2.2.2.2.2.2)))))),y115.2)) (
 some ((y115.1.1,(y115.1.2.1,((pSet (pSet y115.1.2.2.1 (pAdd .i64 (pAdd .i64 (pMul .i64 y113.1.2.2.2.1 y113.1.2.1) y113.1.2.2.2.2.1) 1) ([],(y115.1.2.2.2.2.2.2.1,()))) (pAdd .i64 (pMul .i64 y113.1.2.2.2.1 y113.1.2.1) y113.1.2.2.2.2.1) ([a1],(y115.1.2.2.2.2.2.2.1,()))),(y115.1.2.2.2.1,((pAdd .i64 y115.1.2.2.2.2.1 y69),y115.1.2.2.2.2.2))))),y115.2))) (
 bindO (idx y114.1.2.2.1 (pAdd .i64 (pMul .i64 y113.1.2.2.2.1 y113.1.2.1) y113.1.2.2.2.2.1)) fun y120 =>
 bindO (idx y114.1.2.2.1 (pAdd .i64 (pMul .i64 y113.1.2.2.2.1 y113.1.2.1) y113.1.2.2.2.2.1)) fun y121 =>
 ifB (pGe (pAdd .i64 y114.1.2.2.2.2.1 y69) y114.1.2.1) (
 some ((y114.1.1,(y114.1.2.1,((pSet y114.1.2.2.1 (pAdd .i64 (pMul .i64 y113.1.2.2.2.1 y113.1.2.1) y113.1.2.2.2.2.1) ([a1],(y114.1.2.2.2.2.2.2.1,()))),(y114.1.2.2.2.1,((pSub .i64 y114.1.2.1 1),(true,y114.1.2.2.2.2.2.2)))))),y114.2)) (
 some ((y114.1.1,(y114.1.2.1,((pSet y114.1.2.2.1 (pAdd .i64 (pMul .i64 y113.1.2.2.2.1 y113.1.2.1) y113.1.2.2.2.2.1) ([a1],(y114.1.2.2.2.2.2.2.1,()))),(y114.1.2.2.2.1,((pAdd .i64 y114.1.2.2.2.2.1 y69),y114.1.2.2.2.2.2))))),y114.2)))) (
 bindO (zB8 N a0 (pAdd .i64 (pMul .i64 a0.1.2.2.2.1 a0.1.2.1) a0.1.2.2.2.2.1)) fun y122 =>
 ifB (pEq y69 2) (
 bindO (zB8 N y122 (pAdd .i64 (pAdd .i64 (pMul .i64 a0.1.2.2.2.1 a0.1.2.1) a0.1.2.2.2.2.1) 1)) fun y123 =>
 bindO (idx y123.1.2.2.1 (pAdd .i64 (pAdd .i64 (pMul .i64 a0.1.2.2.2.1 a0.1.2.1) a0.1.2.2.2.2.1) 1)) fun y124 =>
 bindO (idx y123.1.2.2.1 (pAdd .i64 (pAdd .i64 (pMul .i64 a0.1.2.2.2.1 a0.1.2.1) a0.1.2.2.2.2.1) 1)) fun y125 =>
 bindO (idx (pSet y123.1.2.2.1 (pAdd .i64 (pAdd .i64 (pMul .i64 a0.1.2.2.2.1 a0.1.2.1) a0.1.2.2.2.2.1) 1) ([],(y123.1.2.2.2.2.2.2.1,()))) (pAdd .i64 (pMul .i64 a0.1.2.2.2.1 a0.1.2.1) a0.1.2.2.2.2.1)) fun y126 =>
 bindO (idx (pSet y123.1.2.2.1 (pAdd .i64 (pAdd .i64 (pMul .i64 a0.1.2.2.2.1 a0.1.2.1) a0.1.2.2.2.2.1) 1) ([],(y123.1.2.2.2.2.2.2.1,()))) (pAdd .i64 (pMul .i64 a0.1.2.2.2.1 a0.1.2.1) a0.1.2.2.2.2.1)) fun y127 =>
 ifB (pGe (pAdd .i64 y123.1.2.2.2.2.1 y69) y123.1.2.1) (
 some ((y123.1.1,(y123.1.2.1,((pSet (pSet y123.1.2.2.1 (pAdd .i64 (pAdd .i64 (pMul .i64 a0.1.2.2.2.1 a0.1.2.1) a0.1.2.2.2.2.1) 1) ([],(y123.1.2.2.2.2.2.2.1,()))) (pAdd .i64 (pMul .i64 a0.1.2.2.2.1 a0.1.2.1) a0.1.2.2.2.2.1) ([a1],(y123.1.2.2.2.2.2.2.1,()))),(y123.1.2.2.2.1,((pSub .i64 y123.1.2.1 1),(true,y123.1.2.2.2.2.2.2)))))),y123.2)) (
 some ((y123.1.1,(y123.1.2.1,((pSet (pSet y123.1.2.2.1 (pAdd .i64 (pAdd .i64 (pMul .i64 a0.1.2.2.2.1 a0.1.2.1) a0.1.2.2.2.2.1) 1) ([],(y123.1.2.2.2.2.2.2.1,()))) (pAdd .i64 (pMul .i64 a0.1.2.2.2.1 a0.1.2.1) a0.1.2.2.2.2.1) ([a1],(y123.1.2.2.2.2.2.2.1,()))),(y123.1.2.2.2.1,((pAdd .i64 y123.1.2.2.2.2.1 y69),y123.1.2.2.2.2.2))))),y123.2))) (
 bindO (idx y122.1.2.2.1 (pAdd .i64 (pMul .i64 a0.1.2.2.2.1 a0.1.2.1) a0.1.2.2.2.2.1)) fun y128 =>
 bindO (idx y122.1.2.2.1 (pAdd .i64 (pMul .i64 a0.1.2.2.2.1 a0.1.2.1) a0.1.2.2.2.2.1)) fun y129 =>
 ifB (pGe (pAdd .i64 y122.1.2.2.2.2.1 y69) y122.1.2.1) (
 some ((y122.1.1,(y122.1.2.1,((pSet y122.1.2.2.1 (pAdd .i64 (pMul .i64 a0.1.2.2.2.1 a0.1.2.1) a0.1.2.2.2.2.1) ([a1],(y122.1.2.2.2.2.2.2.1,()))),(y122.1.2.2.2.1,((pSub .i64 y122.1.2.1 1),(true,y122.1.2.2.2.2.2.2)))))),y122.2)) (
 some ((y122.1.1,(y122.1.2.1,((pSet y122.1.2.2.1 (pAdd .i64 (pMul .i64 a0.1.2.2.2.1 a0.1.2.1) a0.1.2.2.2.2.1) ([a1],(y122.1.2.2.2.2.2.2.1,()))),(y122.1.2.2.2.1,((pAdd .i64 y122.1.2.2.2.2.1 y69),y122.1.2.2.2.2.2))))),y122.2))))) (
 bindO (zB8 N a0 (pAdd .i64 (pMul .i64 a0.1.2.2.2.1 a0.1.2.1) a0.1.2.2.2.2.1)) fun y130 =>
 ifB (pEq y69 2) (
 bindO (zB8 N y130 (pAdd .i64 (pAdd .i64 (pMul .i64 a0.1.2.2.2.1 a0.1.2.1) a0.1.2.2.2.2.1) 1)) fun y131 =>
 bindO (idx y131.1.2.2.1 (pAdd .i64 (pAdd .i64 (pMul .i64 a0.1.2.2.2.1 a0.1.2.1) a0.1.2.2.2.2.1) 1)) fun y132 =>
 bindO (idx y131.1.2.2.1 (pAdd .i64 (pAdd .i64 (pMul .i64 a0.1.2.2.2.1 a0.1.2.1) a0.1.2.2.2.2.1) 1)) fun y133 =>
 bindO (idx (pSet y131.1.2.2.1 (pAdd .i64 (pAdd .i64 (pMul .i64 a0.1.2.2.2.1 a0.1.2.1) a0.1.2.2.2.2.1) 1) ([],(y131.1.2.2.2.2.2.2.1,()))) (pAdd .i64 (pMul .i64 a0.1.2.2.2.1 a0.1.2.1) a0.1.2.2.2.2.1)) fun y134 =>
 bindO (idx (pSet y131.1.2.2.1 (pAdd .i64 (pAdd .i64 (pMul .i64 a0.1.2.2.2.1 a0.1.2.1) a0.1.2.2.2.2.1) 1) ([],(y131.1.2.2.2.2.2.2.1,()))) (pAdd .i64 (pMul .i64 a0.1.2.2.2.1 a0.1.2.1) a0.1.2.2.2.2.1)) fun y135 =>
 ifB (pGe (pAdd .i64 y131.1.2.2.2.2.1 y69) y131.1.2.1) (
 some ((y131.1.1,(y131.1.2.1,((pSet (pSet y131.1.2.2.1 (pAdd .i64 (pAdd .i64 (pMul .i64 a0.1.2.2.2.1 a0.1.2.1) a0.1.2.2.2.2.1) 1) ([],(y131.1.2.2.2.2.2.2.1,()))) (pAdd .i64 (pMul .i64 a0.1.2.2.2.1 a0.1.2.1) a0.1.2.2.2.2.1) ([a1],(y131.1.2.2.2.2.2.2.1,()))),(y131.1.2.2.2.1,((pSub .i64 y131.1.2.1 1),(true,y131.1.2.2.2.2.2.2)))))),y131.2)) (
 some ((y131.1.1,(y131.1.2.1,((pSet (pSet y131.1.2.2.1 (pAdd .i64 (pAdd .i64 (pMul .i64 a0.1.2.2.2.1 a0.1.2.1) a0.1.2.2.2.2.1) 1) ([],(y131.1.2.2.2.2.2.2.1,()))) (pAdd .i64 (pMul .i64 a0.1.2.2.2.1 a0.1.2.1) a0.1.2.2.2.2.1) ([a1],(y131.1.2.2.2.2.2.2.1,()))),(y131.1.2.2.2.1,((pAdd .i64 y131.1.2.2.2.2.1 y69),y131.1.2.2.2.2.2))))),y131.2))) (
 bindO (idx y130.1.2.2.1 (pAdd .i64 (pMul .i64 a0.1.2.2.2.1 a0.1.2.1) a0.1.2.2.2.2.1)) fun y136 =>
 bindO (idx y130.1.2.2.1 (pAdd .i64 (pMul .i64 a0.1.2.2.2.1 a0.1.2.1) a0.1.2.2.2.2.1)) fun y137 =>
 ifB (pGe (pAdd .i64 y130.1.2.2.2.2.1 y69) y130.1.2.1) (
 some ((y130.1.1,(y130.1.2.1,((pSet y130.1.2.2.1 (pAdd .i64 (pMul .i64 a0.1.2.2.2.1 a0.1.2.1) a0.1.2.2.2.2.1) ([a1],(y130.1.2.2.2.2.2.2.1,()))),(y130.1.2.2.2.1,((pSub .i64 y130.1.2.1 1),(true,y130.1.2.2.2.2.2.2)))))),y130.2)) (
 some ((y130.1.1,(y130.1.2.1,((pSet y130.1.2.2.1 (pAdd .i64 (pMul .i64 a0.1.2.2.2.1 a0.1.2.1) a0.1.2.2.2.2.1) ([a1],(y130.1.2.2.2.2.2.2.1,()))),(y130.1.2.2.2.1,((pAdd .i64 y130.1.2.2.2.2.1 y69),y130.1.2.2.2.2.2))))),y130.2))))))
def zAF.l18 {R:Type} (N:Nat) (d:List Int×Int×Int×(Int×Int×(List (List Int×Int×Unit))×Int×Int×Bool×Int×Unit)×((Int×Int×(List (List Int×Int×Unit))×Int×Int×Bool×Int×Unit)×Unit)×Unit) (kn:List Int×Int×Int×(Int×Int×(List (List Int×Int×Unit))×Int×Int×Bool×Int×Unit)×((Int×Int×(List (List Int×Int×Unit))×Int×Int×Bool×Int×Unit)×Unit)×Unit->Option R) (kx:List Int×Int×Int×(Int×Int×(List (List Int×Int×Unit))×Int×Int×Bool×Int×Unit)×((Int×Int×(List (List Int×Int×Unit))×Int×Int×Bool×Int×Unit)×Unit)×Unit->Option R):Option R :=
 let x86:=d.1;
 let x87:=d.2.1;
 let x88:=d.2.2.1;
 let x89:=d.2.2.2.1;
 let x90:=d.2.2.2.2.1;
 bindO (
 ifB (pLt x87 (pLen x86)) (
 bindO (idx x86 x87) fun y92 =>
 bindO (
 ifB (pGe y92 48) (
 bindO (idx x86 x87) fun y94 =>
 some (pLe y94 57)) (
 some false)) fun y93 =>
 bindO (
 ifB y93 (
 some true) (
 bindO (idx x86 x87) fun y96 =>
 some (pEq y96 59))) fun y95 =>
 some y95) (
 some false)) fun y91 =>
 ifB y91 (
 kn (x86,(pAdd .i64 x87 1),x88,x89,x90,())) (
 kx (x86,x87,x88,x89,x90,()))
def zAF.l8 {R:Type} (N:Nat) (d:List Int×Int×(Int×Int×(List (List Int×Int×Unit))×Int×Int×Bool×Int×Unit)×((Int×Int×(List (List Int×Int×Unit))×Int×Int×Bool×Int×Unit)×Unit)×Unit) (kn:List Int×Int×(Int×Int×(List (List Int×Int×Unit))×Int×Int×Bool×Int×Unit)×((Int×Int×(List (List Int×Int×Unit))×Int×Int×Bool×Int×Unit)×Unit)×Unit->Option R) (kx:((Int×Int×(List (List Int×Int×Unit))×Int×Int×Bool×Int×Unit)×((Int×Int×(List (List Int×Int×Unit))×Int×Int×Bool×Int×Unit)×Unit)×Unit) ⊕ ((Int×Int×(List (List Int×Int×Unit))×Int×Int×Bool×Int×Unit)×Unit)->Option R):Option R :=
 let x80:=d.1;
 let x81:=d.2.1;
 let x82:=d.2.2.1;
 let x83:=d.2.2.2.1;
 ifB (pLt x81 (pLen x80)) (
 bindO (A:=(List Int×Int×(Int×Int×(List (List Int×Int×Unit))×Int×Int×Bool×Int×Unit)×((Int×Int×(List (List Int×Int×Unit))×Int×Int×Bool×Int×Unit)×Unit)×Unit) ⊕ ((Int×Int×(List (List Int×Int×Unit))×Int×Int×Bool×Int×Unit)×Unit)) (
 bindO (idx x80 x81) fun y84 =>
 ifB (pEq y84 27) (
 ifB (pGe (pAdd .i64 x81 1) (pLen x80)) (
 some (.inr (x83.1,()))) (
 bindO (idx x80 (pAdd .i64 x81 1)) fun y85 =>
 ifB (pNe y85 91) (
 some (.inl (x80,(pAdd .i64 x81 1),x82,x83,()))) (
 loopP (zAF.l18 N) N (x80,(pAdd .i64 (pAdd .i64 x81 1) 1),(pAdd .i64 (pAdd .i64 x81 1) 1),x82,x83,()) (
 fun d =>
 let x97:=d.1;
 let x98:=d.2.1;
 let x99:=d.2.2.1;
 let x100:=d.2.2.2.1;
 let x101:=d.2.2.2.2.1;
 ifB (pLt x98 (pLen x97)) (
 ifB (pLe 0 x99) (
 ifB (pLe x99 x98) (
 ifB (pLe x98 (pLen x97)) (
 bindO (idx x97 x98) fun y102 =>
 bindO (zBH N x101 (sub x97 x99 x98) y102) fun y103 =>
 some (.inl (x97,x98,x100,y103,()))) (
 none)) (
 none)) (
 none)) (
 some (.inl (x97,x98,x100,x101,()))))))) (
 ifB (pEq y84 13) (
 some (.inl (x80,x81,x82,((x83.1.1,(x83.1.2.1,(x83.1.2.2.1,(x83.1.2.2.2.1,(0,(false,x83.1.2.2.2.2.2.2)))))),x83.2),()))) (
 ifB (pEq y84 10) (
 bindO (zBK N x83) fun y104 =>
 some (.inl (x80,x81,x82,y104,()))) (
 ifB (pEq y84 8) (
 bindO (zBV N 0 (pSub .i64 x83.1.2.2.2.2.1 1)) fun y105 =>
 some (.inl (x80,x81,x82,((x83.1.1,(x83.1.2.1,(x83.1.2.2.1,(x83.1.2.2.2.1,(y105,(false,x83.1.2.2.2.2.2.2)))))),x83.2),()))) (
 bindO (
 ifB (pGe y84 32) (
 some (pNe y84 127)) (
 some false)) fun y106 =>
 ifB y106 (
 bindO (zC4 N x83 y84) fun y107 =>
 some (.inl (x80,x81,x82,y107,()))) (
 some (.inl (x80,x81,x82,x83,())))))))) (
 onSum (fun d =>
 let x108:=d.1;
 let x109:=d.2.1;
 let x110:=d.2.2.1;
 let x111:=d.2.2.2.1;
 kn (x108,(pAdd .i64 x109 1),x110,x111,())) (
 fun d =>
 let x112:=d.1;
 kx (.inr (x112,()))))) (
 kx (.inl (x82,x83,())))
def zAF (N:Nat) (a0:Int×Int×(List (List (Int)×Int×Unit))×Int×Int×Bool×Int×Unit) (a1:ByteArray):Option (Int×Int×(List (List Int×Int×Unit))×Int×Int×Bool×Int×Unit) :=
 ifB (pGt (pSize a1) 20000) (
 some (0,(0,([],(0,(0,(false,(0,())))))))) (
 bindO (zB4 N a0) fun y77 =>
 bindO (zAM N a0) fun y78 =>
 ifB (pNot y78) (
 some y77) (
 bindO (zAT N a1) fun y79 =>
 loopP (zAF.l8 N) N (y79,0,(0,(0,([],(0,(0,(false,(0,()))))))),(y77,()),()) (
 onSum (fun d =>
 let x113:=d.1;
 let x114:=d.2.1;
 some x114.1) (
 fun d =>
 let x115:=d.1;
 some x115))))
def zBL (N:Nat) (a0:List (Int)×Int×Int×Int×Unit):Option ((Int×Int×(List (List Int×Int×Unit))×Int×Int×Bool×Int×Unit)×List Int×Int×Int×Int×Unit) :=
 bindO (zAC N a0 4) fun y23 =>
 bindO (zAC N y23.2 8) fun y24 =>
 bindO (zCF N (pAdd .i64 1 y23.1) (pAdd .i64 2 y24.1)) fun y25 =>
 bindO (zBC N y24.2 40) fun y26 =>
 ifB y26.1 (
 bindO (zCF N 24 80) fun y27 =>
 bindO (zAC N y26.2 (pAdd .i64 20 (pMul .i64 4 y26.2.2.2.2.1))) fun y28 =>
 bindO (zA8 N y28.2 y28.1) fun y29 =>
 bindO (zAF N y27 y29.1) fun y30 =>
 bindO (zBC N y29.2 15) fun y31 =>
 ifB y31.1 (
 bindO (zAC N y31.2 5) fun y32 =>
 ifB (pEq y32.1 0) (
 some ((y30.1,(y30.2.1,(y30.2.2.1,(y30.1,y30.2.2.2.2)))),y32.2)) (
 ifB (pEq y32.1 1) (
 some ((y30.1,(y30.2.1,(y30.2.2.1,(y30.2.2.2.1,(y30.2.2.2.2.1,((pNot y30.2.2.2.2.2.1),y30.2.2.2.2.2.2)))))),y32.2)) (
 ifB (pEq y32.1 2) (
 bindO (idx y30.2.2.1 0) fun y33 =>
 bindO (idx y30.2.2.1 0) fun y34 =>
 some ((y30.1,(y30.2.1,((pSet y30.2.2.1 0 (y34.1,(4,y34.2.2))),y30.2.2.2))),y32.2)) (
 ifB (pEq y32.1 3) (
 bindO (idx y30.2.2.1 (pSub .i64 (pLen y30.2.2.1) 1)) fun y35 =>
 bindO (idx y30.2.2.1 (pSub .i64 (pLen y30.2.2.1) 1)) fun y36 =>
 some ((y30.1,(y30.2.1,((pSet y30.2.2.1 (pSub .i64 (pLen y30.2.2.1) 1) ([19968],y36.2)),y30.2.2.2))),y32.2)) (
 some ((y30.1,((pAdd .i64 y30.2.1 1),y30.2.2)),y32.2)))))) (
 some (y30,y31.2))) (
 bindO (zAC N y26.2 (pAdd .i64 20 (pMul .i64 4 y26.2.2.2.2.1))) fun y37 =>
 bindO (zA8 N y37.2 y37.1) fun y38 =>
 bindO (zAF N y25 y38.1) fun y39 =>
 bindO (zBC N y38.2 15) fun y40 =>
 ifB y40.1 (
 bindO (zAC N y40.2 5) fun y41 =>
 ifB (pEq y41.1 0) (
 some ((y39.1,(y39.2.1,(y39.2.2.1,(y39.1,y39.2.2.2.2)))),y41.2)) (
 ifB (pEq y41.1 1) (
 some ((y39.1,(y39.2.1,(y39.2.2.1,(y39.2.2.2.1,(y39.2.2.2.2.1,((pNot y39.2.2.2.2.2.1),y39.2.2.2.2.2.2)))))),y41.2)) (
 ifB (pEq y41.1 2) (
 bindO (idx y39.2.2.1 0) fun y42 =>
 bindO (idx y39.2.2.1 0) fun y43 =>
 some ((y39.1,(y39.2.1,((pSet y39.2.2.1 0 (y43.1,(4,y43.2.2))),y39.2.2.2))),y41.2)) (
 ifB (pEq y41.1 3) (
 bindO (idx y39.2.2.1 (pSub .i64 (pLen y39.2.2.1) 1)) fun y44 =>
 bindO (idx y39.2.2.1 (pSub .i64 (pLen y39.2.2.1) 1)) fun y45 =>
 some ((y39.1,(y39.2.1,((pSet y39.2.2.1 (pSub .i64 (pLen y39.2.2.1) 1) ([19968],y45.2)),y39.2.2.2))),y41.2)) (
 some ((y39.1,((pAdd .i64 y39.2.1 1),y39.2.2)),y41.2)))))) (
 some (y39,y40.2)))
def zBR (N:Nat) (a0:List (Int)×Int×Int×Int×Unit):Option ((Int×Int×(List (List Int×Int×Unit))×Int×Int×Bool×Int×Unit)×(Int×Int×(List (List Int×Int×Unit))×Int×Int×Bool×Int×Unit)×List Int×Int×Int×Int×Unit) :=
 bindO (zAC N a0 5) fun y15 =>
 bindO (zAC N y15.2 12) fun y16 =>
 bindO (zAC N y16.2 4) fun y17 =>
 bindO (zA7 N y17.2 y17.1) fun y18 =>
 bindO (zBJ N y18.2) fun y19 =>
 bindO (zAI N y18.1 y19.1 false (pAdd .i64 1 y15.1) (pAdd .i64 2 y16.1)) fun y20 =>
 bindO (zBS N y19.2) fun y21 =>
 bindO (zAC N y21.2 4) fun y22 =>
 bindO (zA7 N y22.2 y22.1) fun y23 =>
 bindO (zBC N y23.2 2) fun y24 =>
 bindO (zAI N y23.1 y21.1 y24.1 (pAdd .i64 1 y15.1) (pAdd .i64 2 y16.1)) fun y25 =>
 bindO (zBC N y24.2 15) fun y26 =>
 ifB y26.1 (
 bindO (zBL N y26.2) fun y27 =>
 some (y27.1,y25.1,y27.2)) (
 bindO (zBC N y26.2 15) fun y28 =>
 ifB y28.1 (
 bindO (zBL N y28.2) fun y29 =>
 some (y20.1,y29.1,y29.2)) (
 some (y20.1,y25.1,y28.2)))
def zCL (N:Nat) (a0:List (Int)):Option ((Int×Int×(List (List Int×Int×Unit))×Int×Int×Bool×Int×Unit)×Int×Int×(List (List Int×Int×Unit))×Int×Int×Bool×Int×Unit) :=
 bindO (zAS N a0) fun y2 =>
 bindO (zBR N y2) fun y3 =>
 some (y3.1,y3.2.1)
def zB3.l4 {R:Type} (N:Nat) (d:(List (List Int×Int×Unit))×Int×Int×(Int×Int×(List (List Int×Int×Unit))×Int×Int×Bool×Int×Unit)×(Int×Int×(List (List Int×Int×Unit))×Int×Int×Bool×Int×Unit)×Unit) (kn:(List (List Int×Int×Unit))×Int×Int×(Int×Int×(List (List Int×Int×Unit))×Int×Int×Bool×Int×Unit)×(Int×Int×(List (List Int×Int×Unit))×Int×Int×Bool×Int×Unit)×Unit->Option R) (kx:(Int×Int×(List (List Int×Int×Unit))×Int×Int×Bool×Int×Unit)×(Int×Int×(List (List Int×Int×Unit))×Int×Int×Bool×Int×Unit)×Unit->Option R):Option R :=
 let x18:=d.1;
 let x19:=d.2.1;
 let x20:=d.2.2.1;
 let x21:=d.2.2.2.1;
 let x22:=d.2.2.2.2.1;
 ifB (pLt x20 x19) (
 bindO (idx x18 x20) fun y23 =>
 bindO (zAA N y23.1) fun y24 =>
 ifB (pFit x22.2.2.1 [(y24,(y23.2.1,()))]) (
 kn (x18,x19,(pAdd .i64 x20 1),x21,(x22.1,(x22.2.1,((pApp x22.2.2.1 [(y24,(y23.2.1,()))]),x22.2.2.2))),())) (
 none)) (
 kx (x21,x22,()))
def zB3 (N:Nat) (a0:Int×Int×(List (List (Int)×Int×Unit))×Int×Int×Bool×Int×Unit):Option (Int×Int×(List (List Int×Int×Unit))×Int×Int×Bool×Int×Unit) :=
 loopP (zB3.l4 N) N (a0.2.2.1,(pLen a0.2.2.1),0,(0,(0,([],(0,(0,(false,(0,()))))))),(a0.1,(a0.2.1,([],a0.2.2.2))),()) (
 fun d =>
 let x25:=d.1;
 let x26:=d.2.1;
 some x26)
def zBW (N:Nat) (a0:ByteArray):Option (Int×Int) :=
 some (if a0.size=0 then (65533,0) else (((Go.Utf8.decode a0 0).1:Int),((Go.Utf8.decode a0 0).2:Int)))
end Go.AE.F
end
