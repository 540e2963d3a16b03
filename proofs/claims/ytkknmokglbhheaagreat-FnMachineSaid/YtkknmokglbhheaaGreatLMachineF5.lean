/- Functions as they are printed out of the program: plain Lean, nothing is claimed here. -/
import Derived.Test.YtkknmokglbhheaaGreatLMachineF4
noncomputable section
namespace Go.AE.F
open Go.AE
def zCD (N:Nat) (a0:List (Int)×Int×Int×Unit) (a1:Int×Int×Unit):Option (Int) :=
 bindO (zAY N a0) fun y5 =>
 bindO (zAR N y5) fun y6 =>
 bindO (idx y5 (pMin (pMax a1.1 0) (pSub .i64 y6 1))) fun y7 =>
 bindO (idx y5 (pMin (pMax a1.1 0) (pSub .i64 y6 1))) fun y8 =>
 bindO (zB4 N a0 y8) fun y9 =>
 some (pAdd .i64 y8 (pMin (pMax a1.2.1 0) (pSub .i64 y9 y8)))
def zB2.l26 {R:Type} (N:Nat) (d:(List Int×Int×Int×Unit)×Int×Int×Int×Int×Unit) (kn:(List Int×Int×Int×Unit)×Int×Int×Int×Int×Unit→Option R) (kx:(Int×Unit) ⊕ (Int×Unit)→Option R):Option R :=
 let x41:=d.1;
 let x42:=d.2.1;
 let x43:=d.2.2.1;
 let x44:=d.2.2.2.1;
 let x45:=d.2.2.2.2.1;
 ifB (pLt x45 x44) (
 bindO (idx x41.1 x45) fun y46 =>
 ifB (pEq y46 x43) (
 kx (.inr (x45,()))) (
 kn (x41,x42,x43,x44,(pAdd .i64 x45 1),()))) (
 kx (.inl (x42,())))
def zB2 (N:Nat) (a0:List (Int)×Int×Int×Unit) (a1:Int) (a2:Int) (a3:Int):Option (Int) :=
 bindO (zAR N a0.1) fun y28 =>
 ifB (pEq a2 1) (
 some (pMax (pSub .i64 a1 1) 0)) (
 ifB (pEq a2 2) (
 some (pMin (pAdd .i64 a1 1) y28)) (
 ifB (pEq a2 3) (
 bindO (zAC N a0 a1) fun y29 =>
 some y29) (
 ifB (pEq a2 4) (
 bindO (zAE N a0 a1) fun y30 =>
 some y30) (
 ifB (pEq a2 5) (
 bindO (zAZ N a0 a1) fun y31 =>
 some y31) (
 ifB (pEq a2 6) (
 bindO (zB4 N a0 a1) fun y32 =>
 some y32) (
 ifB (pEq a2 7) (
 bindO (zCI N a0 a1) fun y33 =>
 bindO (zCI N a0 a0.2.1) fun y34 =>
 ifB (pEq a2 8) (
 bindO (zCD N a0 ((pAdd .i64 (pSub .i64 y33.1 1) 2),(y34.2.1,()))) fun y35 =>
 some y35) (
 bindO (zCD N a0 ((pSub .i64 y33.1 1),(y34.2.1,()))) fun y36 =>
 some y36)) (
 ifB (pEq a2 8) (
 bindO (zCI N a0 a1) fun y37 =>
 bindO (zCI N a0 a0.2.1) fun y38 =>
 ifB (pEq a2 8) (
 bindO (zCD N a0 ((pAdd .i64 (pSub .i64 y37.1 1) 2),(y38.2.1,()))) fun y39 =>
 some y39) (
 bindO (zCD N a0 ((pSub .i64 y37.1 1),(y38.2.1,()))) fun y40 =>
 some y40)) (
 ifB (pEq a2 9) (
 some 0) (
 ifB (pEq a2 10) (
 some y28) (
 loopP (zB2.l26 N) N (a0,a1,a3,y28,(pAdd .i64 a1 1),()) (
 onSum (fun d =>
 let x47:=d.1;
 some x47) (
 fun d =>
 let x48:=d.1;
 some x48))))))))))))
def zAW.l3 {R:Type} (N:Nat) (d:(List Int×Int×Int×Unit)×Int×Int×Int×Int×Int×Unit) (kn:(List Int×Int×Int×Unit)×Int×Int×Int×Int×Int×Unit→Option R) (kx:Int×Unit→Option R):Option R :=
 let x16:=d.1;
 let x17:=d.2.1;
 let x18:=d.2.2.1;
 let x19:=d.2.2.2.1;
 let x20:=d.2.2.2.2.1;
 let x21:=d.2.2.2.2.2.1;
 ifB (pLt x21 x20) (
 bindO (zB2 N x16 x19 x17 x18) fun y22 =>
 ifB (pEq y22 x19) (
 kx (x19,())) (
 kn (x16,x17,x18,y22,x20,(pAdd .i64 x21 1),()))) (
 kx (x19,()))
def zAW (N:Nat) (a0:List (Int)×Int×Int×Unit) (a1:Int) (a2:Int) (a3:Int):Option (Int) :=
 loopP (zAW.l3 N) N (a0,a1,a3,a0.2.1,a2,0,()) (
 fun d =>
 let x23:=d.1;
 some x23)
def zDD (N:Nat) (a0:List (Int)×Int×Int×Unit) (a1:Int) (a2:Int) (a3:Int):Option (Int) :=
 bindO (zC6 N a0) fun y6 =>
 bindO (
 ifB (pNot y6) (
 some true) (
 bindO (zB5 N a1 1 11) fun y8 =>
 some (pNot y8))) fun y7 =>
 bindO (
 ifB y7 (
 some true) (
 bindO (zB5 N a2 0 1000) fun y10 =>
 some (pNot y10))) fun y9 =>
 ifB y9 (
 some (-1)) (
 bindO (zAW N a0 a1 a2 a3) fun y11 =>
 some y11)
def zBY (N:Nat) (a0:List (Int)×Int×Int×Int×Unit):Option ((List Int×Int×Int×Unit)×List Int×Int×Int×Int×Unit) :=
 bindO (zA9 N a0 (pAdd .i64 14 (pMul .i64 2 a0.2.2.2.1))) fun y25 =>
 bindO (zAK N y25.2 y25.1) fun y26 =>
 bindO (zAI N y26.2 50) fun y27 =>
 ifB y27.1 (
 bindO (zA9 N y27.2 4) fun y28 =>
 bindO (zAK N y28.2 (pAdd .i64 298 y28.1)) fun y29 =>
 bindO (zA9 N y29.2 (pAdd .i64 (pLen y29.1) 1)) fun y30 =>
 bindO (zA9 N y30.2 (pAdd .i64 (pLen y29.1) 1)) fun y31 =>
 bindO (zAI N y31.2 15) fun y32 =>
 ifB y32.1 (
 bindO (zA9 N y32.2 3) fun y33 =>
 ifB (pEq y33.1 0) (
 bindO (zA9 N y33.2 2) fun y34 =>
 bindO (idx [(-1),(pAdd .i64 (pLen y29.1) 1)] y34.1) fun y35 =>
 bindO (idx [(-1),(pAdd .i64 (pLen y29.1) 1)] y34.1) fun y36 =>
 some ((y29.1,(y36,(y31.1,()))),y34.2)) (
 ifB (pEq y33.1 1) (
 bindO (zA9 N y33.2 2) fun y37 =>
 bindO (idx [(-1),(pAdd .i64 (pLen y29.1) 1)] y37.1) fun y38 =>
 bindO (idx [(-1),(pAdd .i64 (pLen y29.1) 1)] y37.1) fun y39 =>
 some ((y29.1,(y30.1,(y39,()))),y37.2)) (
 ifB (pFit y29.1 [55296]) (
 some (((pApp y29.1 [55296]),(y30.1,(y31.1,()))),y33.2)) (
 none)))) (
 some ((y29.1,(y30.1,(y31.1,()))),y32.2))) (
 bindO (zA9 N y27.2 (pAdd .i64 (pLen y26.1) 1)) fun y40 =>
 bindO (zA9 N y40.2 (pAdd .i64 (pLen y26.1) 1)) fun y41 =>
 bindO (zAI N y41.2 15) fun y42 =>
 ifB y42.1 (
 bindO (zA9 N y42.2 3) fun y43 =>
 ifB (pEq y43.1 0) (
 bindO (zA9 N y43.2 2) fun y44 =>
 bindO (idx [(-1),(pAdd .i64 (pLen y26.1) 1)] y44.1) fun y45 =>
 bindO (idx [(-1),(pAdd .i64 (pLen y26.1) 1)] y44.1) fun y46 =>
 some ((y26.1,(y46,(y41.1,()))),y44.2)) (
 ifB (pEq y43.1 1) (
 bindO (zA9 N y43.2 2) fun y47 =>
 bindO (idx [(-1),(pAdd .i64 (pLen y26.1) 1)] y47.1) fun y48 =>
 bindO (idx [(-1),(pAdd .i64 (pLen y26.1) 1)] y47.1) fun y49 =>
 some ((y26.1,(y40.1,(y49,()))),y47.2)) (
 ifB (pFit y26.1 [55296]) (
 some (((pApp y26.1 [55296]),(y40.1,(y41.1,()))),y43.2)) (
 none)))) (
 some ((y26.1,(y40.1,(y41.1,()))),y42.2)))
def zCL (N:Nat) (a0:List (Int)×Int×Int×Unit):Option (List Int×Int×Int×Unit) :=
 bindO (zAO N a0.1) fun y1 =>
 some (y1,(a0.2.1,(a0.2.2.1,())))
def zCU (N:Nat) (a0:List (Int)×Int×Int×Unit) (a1:Int) (a2:Int) (a3:Int):Option (List Int×Int×Int×Unit) :=
 bindO (zCL N a0) fun y2 =>
 bindO (zDD N a0 a1 a2 a3) fun y3 =>
 ifB (pGe y3 0) (
 some (y2.1,(y3,y2.2.2))) (
 some y2)
def zDF (N:Nat) (a0:List (Int)×Int×Int×Unit) (a1:List (Int)×Int×Int×Unit):Option (Bool) :=
 bindO (zBG N a0.1 a1.1) fun y3 =>
 bindO (
 ifB y3 (
 some (pEq a0.2.1 a1.2.1)) (
 some false)) fun y4 =>
 bindO (
 ifB y4 (
 some (pEq a0.2.2.1 a1.2.2.1)) (
 some false)) fun y5 =>
 some y5
def zCV (N:Nat) (a0:Int) (a1:Int) (a2:Int) (a3:Int):Option (Int) :=
 ifB (pLe a0 a1) (
 some a0) (
 ifB (pLt a0 a2) (
 some a1) (
 some (pAdd .i64 a0 a3)))
def zBW (N:Nat) (a0:List (Int)×Int×Int×Unit) (a1:Int) (a2:Int) (a3:List (Int)):Option ((List Int×Int×Int×Unit)×List Int×Int×Unit) :=
 ifB (pGt (pLen a3) 400) (
 some (([],(0,(0,()))),([],(2,())))) (
 bindO (zBN N a0) fun y11 =>
 bindO (
 ifB (pNot y11) (
 some true) (
 bindO (zAQ N a3) fun y13 =>
 some (pNot y13))) fun y12 =>
 ifB y12 (
 some (([],(0,(0,()))),([],(1,())))) (
 bindO (
 ifB (pLt a1 0) (
 some true) (
 some (pGt a1 a2))) fun y14 =>
 bindO (
 ifB y14 (
 some true) (
 some (pGt a2 (pLen a0.1)))) fun y15 =>
 ifB y15 (
 some (([],(0,(0,()))),([],(8,())))) (
 ifB (pGt (pAdd .i64 (pSub .i64 (pLen a0.1) (pSub .i64 a2 a1)) (pLen a3)) 300) (
 some (([],(0,(0,()))),([],(5,())))) (
 bindO (zCV N a0.2.1 a1 a2 (pSub .i64 (pLen a3) (pSub .i64 a2 a1))) fun y16 =>
 bindO (zCV N a0.2.2.1 a1 a2 (pSub .i64 (pLen a3) (pSub .i64 a2 a1))) fun y17 =>
 ifB (pLe 0 0) (
 ifB (pLe 0 a1) (
 ifB (pLe a1 (pLen a0.1)) (
 ifB (pLe 0 a2) (
 ifB (pLe a2 (pLen a0.1)) (
 ifB (pLe (pLen a0.1) (pLen a0.1)) (
 bindO (zC9 N (sub a0.1 0 a1)) fun y18 =>
 ifB (pFit y18 a3) (
 ifB (pFit (pApp y18 a3) (sub a0.1 a2 (pLen a0.1))) (
 bindO (
 ifB (pEq a1 a2) (
 some (pEq a0.2.1 a1)) (
 some false)) fun y19 =>
 ifB y19 (
 ifB (pLe 0 a1) (
 ifB (pLe a1 a2) (
 ifB (pLe a2 (pLen a0.1)) (
 bindO (zC9 N (sub a0.1 a1 a2)) fun y20 =>
 some (((pApp (pApp y18 a3) (sub a0.1 a2 (pLen a0.1))),((pAdd .i64 a1 (pLen a3)),(y17,()))),(y20,(0,())))) (
 none)) (
 none)) (
 none)) (
 ifB (pLe 0 a1) (
 ifB (pLe a1 a2) (
 ifB (pLe a2 (pLen a0.1)) (
 bindO (zC9 N (sub a0.1 a1 a2)) fun y21 =>
 some (((pApp (pApp y18 a3) (sub a0.1 a2 (pLen a0.1))),(y16,(y17,()))),(y21,(0,())))) (
 none)) (
 none)) (
 none))) (
 none)) (
 none)) (
 none)) (
 none)) (
 none)) (
 none)) (
 none)) (
 none)))))
def zCM (N:Nat) (a0:List (Int)×Int×Int×Unit) (a1:List (Int)):Option ((List Int×Int×Int×Unit)×List Int×Int×Unit) :=
 bindO (zBW N a0 a0.2.1 a0.2.1 a1) fun y1 =>
 some y1
def zB8 (N:Nat) (a0:List (Int)) (a1:Int):Option (List Int) :=
 ifB (pLt a1 0) (
 none) (
 ifB (pGt (pSub .i64 a1 (pSub .i64 0 (pLen ([]:List Int)))) 0) (
 ifB (pEq 0 0) (
 ifB (pEq 0 0) (
 ifB (pLe 0 (pSub .i64 a1 (pSub .i64 0 (pLen ([]:List Int))))) (
 ifB (pLe (pSub .i64 a1 (pSub .i64 0 (pLen ([]:List Int)))) 68719476736) (
 ifB (pLe 0 0) (
 ifB (pLe 0 (pLen ([]:List Int))) (
 ifB (pLe (pLen ([]:List Int)) (pLen (pRepl (pSub .i64 a1 (pSub .i64 0 (pLen ([]:List Int)))) (0:Int)))) (
 some (sub (pRepl (pSub .i64 a1 (pSub .i64 0 (pLen ([]:List Int)))) (0:Int)) 0 (pLen ([]:List Int)))) (
 none)) (
 none)) (
 none)) (
 none)) (
 none)) (
 none)) (
 none)) (
 some []))
def zA2.l3 {R:Type} (N:Nat) (d:List (List Int)×Int×List (List Int)×Int×Int×Unit) (kn:List (List Int)×Int×List (List Int)×Int×Int×Unit→Option R) (kx:List (List Int)×Int×Unit→Option R):Option R :=
 let x28:=d.1;
 let x29:=d.2.1;
 let x30:=d.2.2.1;
 let x31:=d.2.2.2.1;
 let x32:=d.2.2.2.2.1;
 ifB (pLt x32 x31) (
 bindO (idx x30 x32) fun y33 =>
 ifB (pLt (pAdd .i64 x29 (pLen y33)) 0) (
 none) (
 kn (x28,(pAdd .i64 x29 (pLen y33)),x30,x31,(pAdd .i64 x32 1),()))) (
 kx (x28,x29,()))
def zA2.l11 {R:Type} (N:Nat) (d:List (List Int)×Int×Int×List Int×Unit) (kn:List (List Int)×Int×Int×List Int×Unit→Option R) (kx:List Int×Unit→Option R):Option R :=
 let x37:=d.1;
 let x38:=d.2.1;
 let x39:=d.2.2.1;
 let x40:=d.2.2.2.1;
 ifB (pLt x39 x38) (
 bindO (idx x37 x39) fun y41 =>
 ifB (pFit x40 y41) (
 kn (x37,x38,(pAdd .i64 x39 1),(pApp x40 y41),())) (
 none)) (
 kx (x40,()))
def zA2 (N:Nat) (a0:List (List (Int))):Option (List Int) :=
 loopP (zA2.l3 N) N (a0,0,a0,(pLen a0),0,()) (
 fun d =>
 let x34:=d.1;
 let x35:=d.2.1;
 bindO (zB8 N [] x35) fun y36 =>
 loopP (zA2.l11 N) N (x34,(pLen x34),0,y36,()) (
 fun d =>
 let x42:=d.1;
 some x42))
def zCB (N:Nat) (a0:Int) (a1:Int) (a2:Int) (a3:Int):Option (Int) :=
 ifB (pLe a0 a1) (
 some a0) (
 ifB (pLt a0 a2) (
 some a1) (
 some (pAdd .i64 a0 a3)))
end Go.AE.F
end
