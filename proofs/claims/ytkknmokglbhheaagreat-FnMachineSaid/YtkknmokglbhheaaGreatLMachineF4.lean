/- Functions as they are printed out of the program: plain Lean, nothing is claimed here. -/
import Derived.Test.YtkknmokglbhheaaGreatLMachineF3
noncomputable section
namespace Go.AE.F
open Go.AE
def zB9.l1 {R:Type} (N:Nat) (d:Int×(List Int×Int×Int×Unit)×Unit) (kn:Int×(List Int×Int×Int×Unit)×Unit→Option R) (kx:Int×Unit→Option R):Option R :=
 let x10:=d.1;
 let x11:=d.2.1;
 bindO (
 ifB (pLt x10 (pLen x11.1)) (
 bindO (idx x11.1 x10) fun y13 =>
 some (pNe y13 10)) (
 some false)) fun y12 =>
 ifB y12 (
 kn ((pAdd .i64 x10 1),x11,())) (
 kx (x10,()))
def zB9 (N:Nat) (a0:List (Int)×Int×Int×Unit) (a1:Int):Option (Int) :=
 loopP (zB9.l1 N) N (a1,a0,()) (
 fun d =>
 let x14:=d.1;
 some x14)
def zB7.l5 {R:Type} (N:Nat) (d:Int×Int×(List Int×Int×Int×Unit)×(Int×Int×Unit)×Unit) (kn:Int×Int×(List Int×Int×Int×Unit)×(Int×Int×Unit)×Unit→Option R) (kx:Int×(List Int×Int×Int×Unit)×(Int×Int×Unit)×Unit→Option R):Option R :=
 let x26:=d.1;
 let x27:=d.2.1;
 let x28:=d.2.2.1;
 let x29:=d.2.2.2.1;
 ifB (pGt x26 0) (
 bindO (zB9 N x28 x27) fun y30 =>
 kn ((pSub .i64 x26 1),(pAdd .i64 y30 1),x28,x29,())) (
 kx (x27,x28,x29,()))
def zB7 (N:Nat) (a0:List (Int)×Int×Int×Unit) (a1:Int×Int×Unit):Option (Int) :=
 bindO (zBN N a0) fun y22 =>
 ifB (pNot y22) (
 some 0) (
 bindO (zCR N a0) fun y23 =>
 bindO (zD1 N a1.1 (pSub .i64 y23 1)) fun y24 =>
 bindO (zD2 N 0 y24) fun y25 =>
 loopP (zB7.l5 N) N (y25,0,a0,a1,()) (
 fun d =>
 let x31:=d.1;
 let x32:=d.2.1;
 let x33:=d.2.2.1;
 bindO (zB9 N x32 x31) fun y34 =>
 ifB (pLt x33.2.1 0) (
 some x31) (
 ifB (pGt x33.2.1 (pSub .i64 y34 x31)) (
 some y34) (
 some (pAdd .i64 x31 x33.2.1)))))
def zA5.l8 {R:Type} (N:Nat) (d:Int×(List Int×Int×Int×Unit)×Unit) (kn:Int×(List Int×Int×Int×Unit)×Unit→Option R) (kx:Int×(List Int×Int×Int×Unit)×Unit→Option R):Option R :=
 let x79:=d.1;
 let x80:=d.2.1;
 bindO (
 ifB (pGt x79 0) (
 bindO (idx x80.1 (pSub .i64 x79 1)) fun y82 =>
 bindO (zCY N y82) fun y83 =>
 some (pNe y83 2)) (
 some false)) fun y81 =>
 ifB y81 (
 kn ((pSub .i64 x79 1),x80,())) (
 kx (x79,x80,()))
def zA5.l10 {R:Type} (N:Nat) (d:Int×(List Int×Int×Int×Unit)×Unit) (kn:Int×(List Int×Int×Int×Unit)×Unit→Option R) (kx:Int×Unit→Option R):Option R :=
 let x86:=d.1;
 let x87:=d.2.1;
 bindO (
 ifB (pGt x86 0) (
 bindO (idx x87.1 (pSub .i64 x86 1)) fun y89 =>
 bindO (zCY N y89) fun y90 =>
 some (pEq y90 2)) (
 some false)) fun y88 =>
 ifB y88 (
 kn ((pSub .i64 x86 1),x87,())) (
 kx (x86,()))
def zA5.l14 {R:Type} (N:Nat) (d:Int×Int×(List Int×Int×Int×Unit)×Unit) (kn:Int×Int×(List Int×Int×Int×Unit)×Unit→Option R) (kx:Int×Int×(List Int×Int×Int×Unit)×Unit→Option R):Option R :=
 let x92:=d.1;
 let x93:=d.2.1;
 let x94:=d.2.2.1;
 bindO (
 ifB (pLt x92 x93) (
 bindO (idx x94.1 x92) fun y96 =>
 bindO (zCY N y96) fun y97 =>
 some (pNe y97 2)) (
 some false)) fun y95 =>
 ifB y95 (
 kn ((pAdd .i64 x92 1),x93,x94,())) (
 kx (x92,x93,x94,()))
def zA5.l16 {R:Type} (N:Nat) (d:Int×Int×(List Int×Int×Int×Unit)×Unit) (kn:Int×Int×(List Int×Int×Int×Unit)×Unit→Option R) (kx:Int×Unit→Option R):Option R :=
 let x101:=d.1;
 let x102:=d.2.1;
 let x103:=d.2.2.1;
 bindO (
 ifB (pLt x101 x102) (
 bindO (idx x103.1 x101) fun y105 =>
 bindO (zCY N y105) fun y106 =>
 some (pEq y106 2)) (
 some false)) fun y104 =>
 ifB y104 (
 kn ((pAdd .i64 x101 1),x102,x103,())) (
 kx (x101,()))
def zA5.l28 {R:Type} (N:Nat) (d:Int×Int×Int×Int×(List Int×Int×Int×Unit)×Unit) (kn:Int×Int×Int×Int×(List Int×Int×Int×Unit)×Unit→Option R) (kx:(Int×Unit) ⊕ (Int×Unit)→Option R):Option R :=
 let x110:=d.1;
 let x111:=d.2.1;
 let x112:=d.2.2.1;
 let x113:=d.2.2.2.1;
 let x114:=d.2.2.2.2.1;
 ifB (pLt x113 x112) (
 bindO (idx x114.1 x113) fun y115 =>
 ifB (pEq y115 x111) (
 kx (.inr (x113,()))) (
 kn (x110,x111,x112,(pAdd .i64 x113 1),x114,()))) (
 kx (.inl (x110,())))
def zA5 (N:Nat) (a0:List (Int)×Int×Int×Unit) (a1:Int) (a2:Int) (a3:Int):Option (Int) :=
 ifB (pEq a2 1) (
 bindO (zD2 N 0 (pSub .i64 a1 1)) fun y77 =>
 some y77) (
 ifB (pEq a2 2) (
 bindO (zD1 N (pLen a0.1) (pAdd .i64 a1 1)) fun y78 =>
 some y78) (
 ifB (pEq a2 3) (
 loopP (zA5.l8 N) N (a1,a0,()) (
 fun d =>
 let x84:=d.1;
 let x85:=d.2.1;
 loopP (zA5.l10 N) N (x84,x85,()) (
 fun d =>
 let x91:=d.1;
 some x91))) (
 ifB (pEq a2 4) (
 loopP (zA5.l14 N) N (a1,(pLen a0.1),a0,()) (
 fun d =>
 let x98:=d.1;
 let x99:=d.2.1;
 let x100:=d.2.2.1;
 loopP (zA5.l16 N) N (x98,x99,x100,()) (
 fun d =>
 let x107:=d.1;
 some x107))) (
 ifB (pEq a2 5) (
 bindO (zB1 N a0 a1) fun y108 =>
 some y108) (
 ifB (pEq a2 6) (
 bindO (zB9 N a0 a1) fun y109 =>
 some y109) (
 ifB (pEq a2 9) (
 some 0) (
 ifB (pEq a2 10) (
 some (pLen a0.1)) (
 loopP (zA5.l28 N) N (a1,a3,(pLen a0.1),(pAdd .i64 a1 1),a0,()) (
 onSum (fun d =>
 let x116:=d.1;
 some x116) (
 fun d =>
 let x117:=d.1;
 some x117))))))))))
def zBH.l10 {R:Type} (N:Nat) (d:Int×Int×Int×Int×(List Int×Int×Int×Unit)×Unit) (kn:Int×Int×Int×Int×(List Int×Int×Int×Unit)×Unit→Option R) (kx:Int×Unit→Option R):Option R :=
 let x33:=d.1;
 let x34:=d.2.1;
 let x35:=d.2.2.1;
 let x36:=d.2.2.2.1;
 let x37:=d.2.2.2.2.1;
 ifB (pGt x34 0) (
 bindO (zA5 N x37 x36 x33 x35) fun y38 =>
 kn (x33,(pSub .i64 x34 1),x35,y38,x37,())) (
 kx (x36,()))
def zBH (N:Nat) (a0:List (Int)×Int×Int×Unit) (a1:Int) (a2:Int) (a3:Int):Option (Int) :=
 bindO (zBN N a0) fun y24 =>
 bindO (
 ifB (pNot y24) (
 some true) (
 some (pLt a1 1))) fun y25 =>
 bindO (
 ifB y25 (
 some true) (
 some (pGt a1 11))) fun y26 =>
 bindO (
 ifB y26 (
 some true) (
 some (pLt a2 0))) fun y27 =>
 bindO (
 ifB y27 (
 some true) (
 some (pGt a2 1000))) fun y28 =>
 ifB y28 (
 some (-1)) (
 bindO (
 ifB (pEq a1 7) (
 some true) (
 some (pEq a1 8))) fun y29 =>
 ifB y29 (
 bindO (zB3 N a0 a0.2.1) fun y30 =>
 ifB (pEq a1 7) (
 bindO (zB7 N a0 ((pSub .i64 y30.1 a2),y30.2)) fun y31 =>
 some y31) (
 bindO (zB7 N a0 ((pAdd .i64 y30.1 a2),y30.2)) fun y32 =>
 some y32)) (
 loopP (zBH.l10 N) N (a1,a2,a3,a0.2.1,a0,()) (
 fun d =>
 let x39:=d.1;
 some x39)))
def zAC.l1 {R:Type} (N:Nat) (d:(List Int×Int×Int×Unit)×Int×Unit) (kn:(List Int×Int×Int×Unit)×Int×Unit→Option R) (kx:(List Int×Int×Int×Unit)×Int×Unit→Option R):Option R :=
 let x22:=d.1;
 let x23:=d.2.1;
 bindO (
 ifB (pGt x23 0) (
 bindO (zBZ N x22 (pSub .i64 x23 1)) fun y25 =>
 some (pNot y25)) (
 some false)) fun y24 =>
 ifB y24 (
 kn (x22,(pSub .i64 x23 1),())) (
 kx (x22,x23,()))
def zAC.l3 {R:Type} (N:Nat) (d:(List Int×Int×Int×Unit)×Int×Unit) (kn:(List Int×Int×Int×Unit)×Int×Unit→Option R) (kx:Int×Unit→Option R):Option R :=
 let x28:=d.1;
 let x29:=d.2.1;
 bindO (
 ifB (pGt x29 0) (
 bindO (zBZ N x28 (pSub .i64 x29 1)) fun y31 =>
 some y31) (
 some false)) fun y30 =>
 ifB y30 (
 kn (x28,(pSub .i64 x29 1),())) (
 kx (x29,()))
def zAC (N:Nat) (a0:List (Int)×Int×Int×Unit) (a1:Int):Option (Int) :=
 loopP (zAC.l1 N) N (a0,a1,()) (
 fun d =>
 let x26:=d.1;
 let x27:=d.2.1;
 loopP (zAC.l3 N) N (x26,x27,()) (
 fun d =>
 let x32:=d.1;
 some x32))
def zAE.l2 {R:Type} (N:Nat) (d:(List Int×Int×Int×Unit)×Int×Int×Unit) (kn:(List Int×Int×Int×Unit)×Int×Int×Unit→Option R) (kx:(List Int×Int×Int×Unit)×Int×Int×Unit→Option R):Option R :=
 let x30:=d.1;
 let x31:=d.2.1;
 let x32:=d.2.2.1;
 bindO (
 ifB (pLt x31 x32) (
 bindO (zBZ N x30 x31) fun y34 =>
 some (pNot y34)) (
 some false)) fun y33 =>
 ifB y33 (
 kn (x30,(pAdd .i64 x31 1),x32,())) (
 kx (x30,x31,x32,()))
def zAE.l4 {R:Type} (N:Nat) (d:(List Int×Int×Int×Unit)×Int×Int×Unit) (kn:(List Int×Int×Int×Unit)×Int×Int×Unit→Option R) (kx:Int×Unit→Option R):Option R :=
 let x38:=d.1;
 let x39:=d.2.1;
 let x40:=d.2.2.1;
 bindO (
 ifB (pLt x39 x40) (
 bindO (zBZ N x38 x39) fun y42 =>
 some y42) (
 some false)) fun y41 =>
 ifB y41 (
 kn (x38,(pAdd .i64 x39 1),x40,())) (
 kx (x39,()))
def zAE (N:Nat) (a0:List (Int)×Int×Int×Unit) (a1:Int):Option (Int) :=
 bindO (zAR N a0.1) fun y29 =>
 loopP (zAE.l2 N) N (a0,a1,y29,()) (
 fun d =>
 let x35:=d.1;
 let x36:=d.2.1;
 let x37:=d.2.2.1;
 loopP (zAE.l4 N) N (x35,x36,x37,()) (
 fun d =>
 let x43:=d.1;
 some x43))
def zAZ.l1 {R:Type} (N:Nat) (d:(List Int×Int×Int×Unit)×Int×Unit) (kn:(List Int×Int×Int×Unit)×Int×Unit→Option R) (kx:Int×Unit→Option R):Option R :=
 let x10:=d.1;
 let x11:=d.2.1;
 bindO (
 ifB (pGt x11 0) (
 bindO (idx x10.1 (pSub .i64 x11 1)) fun y13 =>
 some (pNe y13 10)) (
 some false)) fun y12 =>
 ifB y12 (
 kn (x10,(pSub .i64 x11 1),())) (
 kx (x11,()))
def zAZ (N:Nat) (a0:List (Int)×Int×Int×Unit) (a1:Int):Option (Int) :=
 loopP (zAZ.l1 N) N (a0,a1,()) (
 fun d =>
 let x14:=d.1;
 some x14)
def zB4.l1 {R:Type} (N:Nat) (d:(List Int×Int×Int×Unit)×Int×Unit) (kn:(List Int×Int×Int×Unit)×Int×Unit→Option R) (kx:Int×Unit→Option R):Option R :=
 let x12:=d.1;
 let x13:=d.2.1;
 bindO (zAR N x12.1) fun y14 =>
 bindO (
 ifB (pLt x13 y14) (
 bindO (idx x12.1 x13) fun y16 =>
 some (pNe y16 10)) (
 some false)) fun y15 =>
 ifB y15 (
 kn (x12,(pAdd .i64 x13 1),())) (
 kx (x13,()))
def zB4 (N:Nat) (a0:List (Int)×Int×Int×Unit) (a1:Int):Option (Int) :=
 loopP (zB4.l1 N) N (a0,a1,()) (
 fun d =>
 let x17:=d.1;
 some x17)
def zAY.l3 {R:Type} (N:Nat) (d:List Int×Int×Int×List Int×Unit) (kn:List Int×Int×Int×List Int×Unit→Option R) (kx:List Int×Unit→Option R):Option R :=
 let x19:=d.1;
 let x20:=d.2.1;
 let x21:=d.2.2.1;
 let x22:=d.2.2.2.1;
 ifB (pLt x21 x20) (
 bindO (A:=List Int×Int×Int×List Int×Unit) (
 bindO (idx x19 x21) fun y23 =>
 ifB (pEq y23 10) (
 ifB (pFit x22 [(pAdd .i64 x21 1)]) (
 some (x19,x20,x21,(pApp x22 [(pAdd .i64 x21 1)]),())) (
 none)) (
 some (x19,x20,x21,x22,()))) (
 fun d =>
 let x24:=d.1;
 let x25:=d.2.1;
 let x26:=d.2.2.1;
 let x27:=d.2.2.2.1;
 kn (x24,x25,(pAdd .i64 x26 1),x27,()))) (
 kx (x22,()))
def zAY (N:Nat) (a0:List (Int)×Int×Int×Unit):Option (List Int) :=
 loopP (zAY.l3 N) N (a0.1,(pLen a0.1),0,[0],()) (
 fun d =>
 let x28:=d.1;
 some x28)
def zAF.l2 {R:Type} (N:Nat) (d:List Int×Int×Int×Int×Unit) (kn:List Int×Int×Int×Int×Unit→Option R) (kx:(Unit) ⊕ (Int×Unit)→Option R):Option R :=
 let x12:=d.1;
 let x13:=d.2.1;
 let x14:=d.2.2.1;
 let x15:=d.2.2.2.1;
 ifB (pLt x15 x14) (
 bindO (idx x12 x15) fun y16 =>
 ifB (pEq x13 y16) (
 kx (.inr (x15,()))) (
 kn (x12,x13,x14,(pAdd .i64 x15 1),()))) (
 kx (.inl (())))
def zAF (N:Nat) (a0:List (Int)) (a1:Int):Option (Int) :=
 loopP (zAF.l2 N) N (a0,a1,(pLen a0),0,()) (
 onSum (fun d =>
 some (-1)) (
 fun d =>
 let x17:=d.1;
 some x17))
def zCI (N:Nat) (a0:List (Int)×Int×Int×Unit) (a1:Int):Option (Int×Int×Unit) :=
 bindO (zAZ N a0 a1) fun y3 =>
 bindO (zAY N a0) fun y4 =>
 bindO (zAF N y4 y3) fun y5 =>
 some (y5,((pSub .i64 a1 y3),()))
end Go.AE.F
end
