/- Functions as they are printed out of the program: plain Lean, nothing is claimed here. -/
import Derived.Test.YtkknmokglbhheaaGreatLMachineF6
noncomputable section
namespace Go.AE.F
open Go.AE
def zCJ (N:Nat) (a0:(List (Int)×Int×Int×Unit)×Int×Int×Int×Unit) (a1:Int):Option (Int×(List Int×Int×Int×Unit)×Int×Int×Int×Unit) :=
 bindO (zAR N a0.1.1) fun y3 =>
 bindO (zB5 N a1 0 (pSub .i64 y3 1)) fun y4 =>
 ifB (pNot y4) (
 some (0,(a0.1,(a0.2.1,(a0.2.2.1,(8,a0.2.2.2.2)))))) (
 bindO (idx a0.1.1 a1) fun y5 =>
 some (y5,a0))
def zDG (N:Nat) (a0:Bool):Option (Int) :=
 ifB a0 (
 some 1) (
 some 0)
def zCA (N:Nat) (a0:(List (Int)×Int×Int×Unit)×Int×Int×Int×Unit) (a1:Int) (a2:Int) (a3:Int):Option (Int×(List Int×Int×Int×Unit)×Int×Int×Int×Unit) :=
 ifB (pEq a1 18) (
 bindO (
 ifB (pNe a2 0) (
 some true) (
 some (pNe a3 0))) fun y17 =>
 bindO (zDG N y17) fun y18 =>
 bindO (zB5 N y18 (-1000000000) 1000000000) fun y19 =>
 ifB (pNot y19) (
 some (y18,(a0.1,(a0.2.1,(a0.2.2.1,(8,a0.2.2.2.2)))))) (
 some (y18,a0))) (
 ifB (pEq a1 19) (
 bindO (
 ifB (pNe a2 0) (
 some (pNe a3 0)) (
 some false)) fun y20 =>
 bindO (zDG N y20) fun y21 =>
 bindO (zB5 N y21 (-1000000000) 1000000000) fun y22 =>
 ifB (pNot y22) (
 some (y21,(a0.1,(a0.2.1,(a0.2.2.1,(8,a0.2.2.2.2)))))) (
 some (y21,a0))) (
 ifB (pEq a1 20) (
 bindO (zDG N (pLt a2 a3)) fun y23 =>
 bindO (zB5 N y23 (-1000000000) 1000000000) fun y24 =>
 ifB (pNot y24) (
 some (y23,(a0.1,(a0.2.1,(a0.2.2.1,(8,a0.2.2.2.2)))))) (
 some (y23,a0))) (
 ifB (pEq a1 21) (
 bindO (zDG N (pEq a2 a3)) fun y25 =>
 bindO (zB5 N y25 (-1000000000) 1000000000) fun y26 =>
 ifB (pNot y26) (
 some (y25,(a0.1,(a0.2.1,(a0.2.2.1,(8,a0.2.2.2.2)))))) (
 some (y25,a0))) (
 ifB (pEq a1 22) (
 bindO (zDG N (pGt a2 a3)) fun y27 =>
 bindO (zB5 N y27 (-1000000000) 1000000000) fun y28 =>
 ifB (pNot y28) (
 some (y27,(a0.1,(a0.2.1,(a0.2.2.1,(8,a0.2.2.2.2)))))) (
 some (y27,a0))) (
 ifB (pEq a1 23) (
 bindO (zB5 N (pAdd .i64 a2 a3) (-1000000000) 1000000000) fun y29 =>
 ifB (pNot y29) (
 some ((pAdd .i64 a2 a3),(a0.1,(a0.2.1,(a0.2.2.1,(8,a0.2.2.2.2)))))) (
 some ((pAdd .i64 a2 a3),a0))) (
 ifB (pEq a1 24) (
 bindO (zB5 N (pSub .i64 a2 a3) (-1000000000) 1000000000) fun y30 =>
 ifB (pNot y30) (
 some ((pSub .i64 a2 a3),(a0.1,(a0.2.1,(a0.2.2.1,(8,a0.2.2.2.2)))))) (
 some ((pSub .i64 a2 a3),a0))) (
 ifB (pEq a1 25) (
 bindO (zB5 N (pMul .i64 a2 a3) (-1000000000) 1000000000) fun y31 =>
 ifB (pNot y31) (
 some ((pMul .i64 a2 a3),(a0.1,(a0.2.1,(a0.2.2.1,(8,a0.2.2.2.2)))))) (
 some ((pMul .i64 a2 a3),a0))) (
 ifB (pEq a1 26) (
 ifB (pEq a3 0) (
 some (0,(a0.1,(a0.2.1,(a0.2.2.1,(8,a0.2.2.2.2)))))) (
 ifB (pEq a3 0) (
 none) (
 bindO (zB5 N (pQuo .i64 a2 a3) (-1000000000) 1000000000) fun y32 =>
 ifB (pNot y32) (
 some ((pQuo .i64 a2 a3),(a0.1,(a0.2.1,(a0.2.2.1,(8,a0.2.2.2.2)))))) (
 some ((pQuo .i64 a2 a3),a0))))) (
 bindO (zB5 N 0 (-1000000000) 1000000000) fun y33 =>
 ifB (pNot y33) (
 some (0,(a0.1,(a0.2.1,(a0.2.2.1,(8,a0.2.2.2.2)))))) (
 some (0,a0)))))))))))
def zC4 (N:Nat) (a0:(List (Int)×Int×Int×Unit)×Int×Int×Int×Unit) (a1:(List (Int)×Int×Int×Unit)×List (Int)×Int×Unit):Option ((List Int×Int×Int×Unit)×Int×Int×Int×Unit) :=
 ifB (pNe a1.2.2.1 0) (
 some (a0.1,(a0.2.1,(a0.2.2.1,(a1.2.2.1,a0.2.2.2.2))))) (
 some (a1.1,a0.2))
def zBQ (N:Nat) (a0:(List (Int)×Int×Int×Unit)×Int×Int×Int×Unit) (a1:Int):Option ((List Int×Int×Int×Unit)×Int×Int×Int×Unit) :=
 bindO (zCH N a1) fun y3 =>
 ifB (pNot y3) (
 some (a0.1,(a0.2.1,(a0.2.2.1,(8,a0.2.2.2.2))))) (
 bindO (zCW N a0.1 a0.1.2.1 a0.1.2.1 [a1]) fun y4 =>
 bindO (zC4 N a0 y4) fun y5 =>
 some y5)
def zBR (N:Nat) (a0:(List (Int)×Int×Int×Unit)×Int×Int×Int×Unit) (a1:Int) (a2:Int):Option ((List Int×Int×Int×Unit)×Int×Int×Int×Unit) :=
 bindO (zCW N a0.1 a1 a2 []) fun y2 =>
 bindO (zC4 N a0 y2) fun y3 =>
 some y3
def zC0 (N:Nat) (a0:(List (Int)×Int×Int×Unit)×Int×Int×Int×Unit) (a1:Int):Option ((List Int×Int×Int×Unit)×Int×Int×Int×Unit) :=
 bindO (zBK N a0.1 a1) fun y1 =>
 ifB (pNot y1) (
 some (a0.1,(a0.2.1,(a0.2.2.1,(8,a0.2.2.2.2))))) (
 some ((a0.1.1,(a1,a0.1.2.2)),a0.2))
def zBP (N:Nat) (a0:(List (Int)×Int×Int×Unit)×Int×Int×Int×Unit) (a1:Int):Option ((List Int×Int×Int×Unit)×Int×Int×Int×Unit) :=
 bindO (zBK N a0.1 a1) fun y1 =>
 ifB (pNot y1) (
 some (a0.1,(a0.2.1,(a0.2.2.1,(8,a0.2.2.2.2))))) (
 some ((a0.1.1,(a0.1.2.1,(a1,a0.1.2.2.2))),a0.2))
end Go.AE.F
end
