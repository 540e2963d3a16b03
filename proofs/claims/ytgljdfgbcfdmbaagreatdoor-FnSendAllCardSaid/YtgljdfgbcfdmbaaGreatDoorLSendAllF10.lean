/- Functions as they are printed out of the program: plain Lean, nothing is claimed here. -/
import Derived.Test.YtgljdfgbcfdmbaaGreatDoorLSendAllF9
noncomputable section
namespace Go.AE.F
open Go.AE
def zB1.l5 {R:Type} (N:Nat) (d:List Int×(Int×Int×(List (List Int×Int×Unit))×Int×Int×Bool×Int×Unit)×(Int×Int×(List (List Int×Int×Unit))×Int×Int×Bool×Int×Unit)×Unit) (kn:List Int×(Int×Int×(List (List Int×Int×Unit))×Int×Int×Bool×Int×Unit)×(Int×Int×(List (List Int×Int×Unit))×Int×Int×Bool×Int×Unit)×Unit->Option R) (kx:(Int×Int×(List (List Int×Int×Unit))×Int×Int×Bool×Int×Unit)×(Int×Int×(List (List Int×Int×Unit))×Int×Int×Bool×Int×Unit)×Unit->Option R):Option R :=
 let x35:=d.1;
 let x36:=d.2.1;
 let x37:=d.2.2.1;
 ifB (pGt (pLen x35) 0) (
 bindO (idx x35 0) fun y38 =>
 ifB (pLe 0 1) (
 ifB (pLe 1 (pLen x35)) (
 ifB (pLe (pLen x35) (pLen x35)) (
 bindO (
 ifB (pEq y38 27) (
 some (pGt (pLen (sub x35 1 (pLen x35))) 0)) (
 some false)) fun y39 =>
 bindO (
 ifB y39 (
 bindO (idx (sub x35 1 (pLen x35)) 0) fun y41 =>
 some (pEq y41 91)) (
 some false)) fun y40 =>
 ifB y40 (
 ifB (pLe 0 1) (
 ifB (pLe 1 (pLen (sub x35 1 (pLen x35)))) (
 ifB (pLe (pLen (sub x35 1 (pLen x35))) (pLen (sub x35 1 (pLen x35)))) (
 bindO (zAF N x37 (sub (sub x35 1 (pLen x35)) 1 (pLen (sub x35 1 (pLen x35))))) fun y42 =>
 ifB (pLe 0 y42.1) (
 ifB (pLe y42.1 (pLen (sub (sub x35 1 (pLen x35)) 1 (pLen (sub x35 1 (pLen x35)))))) (
 ifB (pLe (pLen (sub (sub x35 1 (pLen x35)) 1 (pLen (sub x35 1 (pLen x35))))) (pLen (sub (sub x35 1 (pLen x35)) 1 (pLen (sub x35 1 (pLen x35)))))) (
 kn ((sub (sub (sub x35 1 (pLen x35)) 1 (pLen (sub x35 1 (pLen x35)))) y42.1 (pLen (sub (sub x35 1 (pLen x35)) 1 (pLen (sub x35 1 (pLen x35)))))),x36,y42.2,())) (
 none)) (
 none)) (
 none)) (
 none)) (
 none)) (
 none)) (
 ifB (pEq y38 27) (
 ifB (pLe 0 (pMin (pLen (sub x35 1 (pLen x35))) 1)) (
 ifB (pLe (pMin (pLen (sub x35 1 (pLen x35))) 1) (pLen (sub x35 1 (pLen x35)))) (
 ifB (pLe (pLen (sub x35 1 (pLen x35))) (pLen (sub x35 1 (pLen x35)))) (
 kn ((sub (sub x35 1 (pLen x35)) (pMin (pLen (sub x35 1 (pLen x35))) 1) (pLen (sub x35 1 (pLen x35)))),x36,x37,())) (
 none)) (
 none)) (
 none)) (
 ifB (pEq y38 13) (
 kn ((sub x35 1 (pLen x35)),x36,(x37.1,(x37.2.1,(x37.2.2.1,(x37.2.2.2.1,(0,(false,x37.2.2.2.2.2.2)))))),())) (
 ifB (pEq y38 10) (
 bindO (zBN N (x37.1,(x37.2.1,(x37.2.2.1,(x37.2.2.2.1,(x37.2.2.2.2.1,(false,x37.2.2.2.2.2.2))))))) fun y43 =>
 kn ((sub x35 1 (pLen x35)),x36,y43,())) (
 ifB (pEq y38 8) (
 kn ((sub x35 1 (pLen x35)),x36,(x37.1,(x37.2.1,(x37.2.2.1,(x37.2.2.2.1,((pMax (pSub .i64 x37.2.2.2.2.1 1) 0),(false,x37.2.2.2.2.2.2)))))),())) (
 bindO (zBS N y38) fun y44 =>
 ifB (pNot y44) (
 bindO (zAO N x37 y38) fun y45 =>
 kn ((sub x35 1 (pLen x35)),x36,y45,())) (
 kn ((sub x35 1 (pLen x35)),x36,x37,())))))))) (
 none)) (
 none)) (
 none)) (
 kx (x36,x37,()))
def zB1 (N:Nat) (a0:Int×Int×(List (List (Int)×Int×Unit))×Int×Int×Bool×Int×Unit) (a1:ByteArray):Option (Int×Int×(List (List Int×Int×Unit))×Int×Int×Bool×Int×Unit) :=
 bindO (zCU N [a1]) fun y30 =>
 bindO (
 ifB y30 (
 some true) (
 bindO (zAL N a0) fun y32 =>
 some (pNot y32))) fun y31 =>
 ifB y31 (
 some (0,(0,([],(0,(0,(false,(0,())))))))) (
 bindO (zB2 N a0) fun y33 =>
 bindO (zAR N a1) fun y34 =>
 loopP (zB1.l5 N) N (y34,(0,(0,([],(0,(0,(false,(0,()))))))),y33,()) (
 fun d =>
 let x46:=d.1;
 let x47:=d.2.1;
 bindO (zB2 N x47) fun y48 =>
 some y48))
def zC5 (N:Nat) (a0:List (Int)):Option (Int×Int×(List (List Int×Int×Unit))×Int×Int×Bool×Int×Unit) :=
 bindO (zAQ N a0) fun y2 =>
 bindO (zBR N y2) fun y3 =>
 some y3.2.1
def zAT.l11 {R:Type} (N:Nat) (d:ByteArray×Int×Int×(Int×Int×(List (List Int×Int×Unit))×Int×Int×Bool×Int×Unit)×Unit) (kn:ByteArray×Int×Int×(Int×Int×(List (List Int×Int×Unit))×Int×Int×Bool×Int×Unit)×Unit->Option R) (kx:ByteArray×Int×(Int×Int×(List (List Int×Int×Unit))×Int×Int×Bool×Int×Unit)×Unit->Option R):Option R :=
 let x26:=d.1;
 let x27:=d.2.1;
 let x28:=d.2.2.1;
 let x29:=d.2.2.2.1;
 ifB (pLt x28 x29.1) (
 bindO (zCR N x29 x28) fun y30 =>
 kn (x26,(pAdd .i64 x27 (pSize y30)),(pAdd .i64 x28 1),x29,())) (
 kx (x26,x27,x29,()))
def zAT (N:Nat) (a0:List (Int)):Option (Bool) :=
 ifB (pGt (pLen a0) 1048576) (
 some true) (
 bindO (zC5 N a0) fun y22 =>
 bindO (zCQ N y22) fun y23 =>
 bindO (zA4 N y22) fun y24 =>
 ifB (pNot y24) (
 some (pSEq y23 (ByteArray.mk #[]))) (
 bindO (zCP N y22) fun y25 =>
 ifB (pNot (pSEq y23 y25)) (
 some false) (
 loopP (zAT.l11 N) N (y23,0,0,y22,()) (
 fun d =>
 let x31:=d.1;
 let x32:=d.2.1;
 let x33:=d.2.2.1;
 bindO (
 ifB (pGt (pSize x31) (pAdd .i64 x32 8)) (
 some true) (
 some (pEq x32 0))) fun y34 =>
 ifB y34 (
 some false) (
 ifB (pGt (pSize x31) 20000) (
 some true) (
 bindO (zCH N x33.1 x33.2.1) fun y35 =>
 bindO (zB1 N y35 x31) fun y36 =>
 bindO (zCM N y36 x33) fun y37 =>
 some y37))))))
end Go.AE.F
end
