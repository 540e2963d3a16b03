/- Functions as they are printed out of the program: plain Lean, nothing is claimed here. -/
import Derived.Test.YthcbmbakpjelgaaGreatDoorLSendF9
noncomputable section
namespace Go.AE.F
open Go.AE
def zB1.l5 {R:Type} (N:Nat) (d:List Int×(Int×Int×(List (List Int×Int×Unit))×Int×Int×Bool×Int×Unit)×(Int×Int×(List (List Int×Int×Unit))×Int×Int×Bool×Int×Unit)×Unit) (kn:List Int×(Int×Int×(List (List Int×Int×Unit))×Int×Int×Bool×Int×Unit)×(Int×Int×(List (List Int×Int×Unit))×Int×Int×Bool×Int×Unit)×Unit->Option R) (kx:(Int×Int×(List (List Int×Int×Unit))×Int×Int×Bool×Int×Unit)×(Int×Int×(List (List Int×Int×Unit))×Int×Int×Bool×Int×Unit)×Unit->Option R):Option R :=
 let x35:=d.1;
 let x36:=d.2.1;
 let x37:=d.2.2.1;
 ifB (pGt (pLen x35) 0) (
 bindO (idx x35 0) fun y38 =>
 ifB (pLe 0 1) (
 ifB (pLe 1 (pLen x35)) (
 ifB (pLe (pLen x35) (pLen x35)) (
 bindO (
 ifB (pEq y38 27) (
 some (pGt (pLen (sub x35 1 (pLen x35))) 0)) (
 some false)) fun y39 =>
 bindO (
 ifB y39 (
 bindO (idx (sub x35 1 (pLen x35)) 0) fun y41 =>
 some (pEq y41 91)) (
 some false)) fun y40 =>
 ifB y40 (
 ifB (pLe 0 1) (
 ifB (pLe 1 (pLen (sub x35 1 (pLen x35)))) (
 ifB (pLe (pLen (sub x35 1 (pLen x35))) (pLen (sub x35 1 (pLen x35)))) (
 bindO (zAE N x37 (sub (sub x35 1 (pLen x35)) 1 (pLen (sub x35 1 (pLen x35))))) fun y42 =>
 ifB (pLe 0 y42.1) (
 ifB (pLe y42.1 (pLen (sub (sub x35 1 (pLen x35)) 1 (pLen (sub x35 1 (pLen x35)))))) (
 ifB (pLe (pLen (sub (sub x35 1 (pLen x35)) 1 (pLen (sub x35 1 (pLen x35))))) (pLen (sub (sub x35 1 (pLen x35)) 1 (pLen (sub x35 1 (pLen x35)))))) (
 kn ((sub (sub (sub x35 1 (pLen x35)) 1 (pLen (sub x35 1 (pLen x35)))) y42.1 (pLen (sub (sub x35 1 (pLen x35)) 1 (pLen (sub x35 1 (pLen x35)))))),x36,y42.2,())) (
 none)) (
 none)) (
 none)) (
 none)) (
 none)) (
 none)) (
 ifB (pEq y38 27) (
 ifB (pLe 0 (pMin (pLen (sub x35 1 (pLen x35))) 1)) (
 ifB (pLe (pMin (pLen (sub x35 1 (pLen x35))) 1) (pLen (sub x35 1 (pLen x35)))) (
 ifB (pLe (pLen (sub x35 1 (pLen x35))) (pLen (sub x35 1 (pLen x35)))) (
 kn ((sub (sub x35 1 (pLen x35)) (pMin (pLen (sub x35 1 (pLen x35))) 1) (pLen (sub x35 1 (pLen x35)))),x36,x37,())) (
 none)) (
 none)) (
 none)) (
 ifB (pEq y38 13) (
 kn ((sub x35 1 (pLen x35)),x36,(x37.1,(x37.2.1,(x37.2.2.1,(x37.2.2.2.1,(0,(false,x37.2.2.2.2.2.2)))))),())) (
 ifB (pEq y38 10) (
 bindO (zBO N (x37.1,(x37.2.1,(x37.2.2.1,(x37.2.2.2.1,(x37.2.2.2.2.1,(false,x37.2.2.2.2.2.2))))))) fun y43 =>
 kn ((sub x35 1 (pLen x35)),x36,y43,())) (
 ifB (pEq y38 8) (
 kn ((sub x35 1 (pLen x35)),x36,(x37.1,(x37.2.1,(x37.2.2.1,(x37.2.2.2.1,((pMax (pSub .i64 x37.2.2.2.2.1 1) 0),(false,x37.2.2.2.2.2.2)))))),())) (
 bindO (zBT N y38) fun y44 =>
 ifB (pNot y44) (
 bindO (zAN N x37 y38) fun y45 =>
 kn ((sub x35 1 (pLen x35)),x36,y45,())) (
 kn ((sub x35 1 (pLen x35)),x36,x37,())))))))) (
 none)) (
 none)) (
 none)) (
 kx (x36,x37,()))
def zB1 (N:Nat) (a0:Int×Int×(List (List (Int)×Int×Unit))×Int×Int×Bool×Int×Unit) (a1:ByteArray):Option (Int×Int×(List (List Int×Int×Unit))×Int×Int×Bool×Int×Unit) :=
 bindO (zCR N [a1]) fun y30 =>
 bindO (
 ifB y30 (
 some true) (
 bindO (zAL N a0) fun y32 =>
 some (pNot y32))) fun y31 =>
 ifB y31 (
 some (0,(0,([],(0,(0,(false,(0,())))))))) (
 bindO (zB3 N a0) fun y33 =>
 bindO (zAQ N a1) fun y34 =>
 loopP (zB1.l5 N) N (y34,(0,(0,([],(0,(0,(false,(0,()))))))),y33,()) (
 fun d =>
 let x46:=d.1;
 let x47:=d.2.1;
 bindO (zB3 N x47) fun y48 =>
 some y48))
def zAZ.l4 {R:Type} (N:Nat) (d:Int×(Int×Int×(List (List Int×Int×Unit))×Int×Int×Bool×Int×Unit)×(Int×Int×(List (List Int×Int×Unit))×Int×Int×Bool×Int×Unit)×Unit) (kn:Int×(Int×Int×(List (List Int×Int×Unit))×Int×Int×Bool×Int×Unit)×(Int×Int×(List (List Int×Int×Unit))×Int×Int×Bool×Int×Unit)×Unit->Option R) (kx:(Unit) ⊕ (Bool×Unit)->Option R):Option R :=
 let x34:=d.1;
 let x35:=d.2.1;
 let x36:=d.2.2.1;
 ifB (pLt x34 (pLen x35.2.2.1)) (
 bindO (idx x35.2.2.1 x34) fun y37 =>
 bindO (idx x36.2.2.1 x34) fun y38 =>
 ifB (pNe y37.2.1 y38.2.1) (
 kx (.inr (false,()))) (
 bindO (idx x35.2.2.1 x34) fun y39 =>
 bindO (idx x36.2.2.1 x34) fun y40 =>
 bindO (zB2 N y39.1 y40.1) fun y41 =>
 ifB (pNot y41) (
 kx (.inr (false,()))) (
 kn ((pAdd .i64 x34 1),x35,x36,())))) (
 kx (.inl (())))
def zAZ (N:Nat) (a0:Int×Int×(List (List (Int)×Int×Unit))×Int×Int×Bool×Int×Unit) (a1:Int×Int×(List (List (Int)×Int×Unit))×Int×Int×Bool×Int×Unit):Option (Bool) :=
 bindO (
 ifB (pNe a0.1 a1.1) (
 some true) (
 some (pNe a0.2.1 a1.2.1))) fun y28 =>
 bindO (
 ifB y28 (
 some true) (
 some (pNe a0.2.2.2.1 a1.2.2.2.1))) fun y29 =>
 bindO (
 ifB y29 (
 some true) (
 some (pNe a0.2.2.2.2.1 a1.2.2.2.2.1))) fun y30 =>
 bindO (
 ifB y30 (
 some true) (
 some (pNot (pBeq a0.2.2.2.2.2.1 a1.2.2.2.2.2.1)))) fun y31 =>
 bindO (
 ifB y31 (
 some true) (
 some (pNe a0.2.2.2.2.2.2.1 a1.2.2.2.2.2.2.1))) fun y32 =>
 bindO (
 ifB y32 (
 some true) (
 some (pNe (pLen a0.2.2.1) (pLen a1.2.2.1)))) fun y33 =>
 ifB y33 (
 some false) (
 loopP (zAZ.l4 N) N (0,a0,a1,()) (
 onSum (fun d =>
 some true) (
 fun d =>
 let x42:=d.1;
 some x42)))
def zCS (N:Nat) (a0:List (Int)):Option (Bool) :=
 ifB (pGt (pLen a0) 1048576) (
 some true) (
 bindO (zCL N a0) fun y16 =>
 bindO (zBN N y16.1 y16.2) fun y17 =>
 bindO (zAX N y16.1 y16.2) fun y18 =>
 bindO (
 ifB (pNot (pSEq y17 y18)) (
 some true) (
 bindO (zCH N y16.1 y16.2) fun y20 =>
 some (pNe y20 (pSize y17)))) fun y19 =>
 ifB y19 (
 some false) (
 bindO (zA4 N y16.1) fun y21 =>
 bindO (
 ifB (pNot y21) (
 some true) (
 bindO (zA4 N y16.2) fun y23 =>
 some (pNot y23))) fun y22 =>
 bindO (
 ifB y22 (
 some true) (
 some (pNe y16.1.1 y16.2.1))) fun y24 =>
 bindO (
 ifB y24 (
 some true) (
 some (pNe y16.1.2.1 y16.2.2.1))) fun y25 =>
 bindO (
 ifB y25 (
 some true) (
 some (pGt (pSize y17) 20000))) fun y26 =>
 ifB y26 (
 some true) (
 bindO (zB1 N y16.1 y17) fun y27 =>
 bindO (zCI N y27 y16.2) fun y28 =>
 ifB y28 (
 bindO (zB1 N y16.1 y17) fun y29 =>
 bindO (zAZ N y29 y16.2) fun y30 =>
 ifB y30 (
 bindO (zBN N y16.2 y16.2) fun y31 =>
 some (pSEq y31 (ByteArray.mk #[]))) (
 some false)) (
 some false))))
end Go.AE.F
end
