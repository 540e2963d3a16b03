/- Functions as they are printed out of the program: plain Lean, nothing is claimed here. -/
import Derived.Test.YtkknmokglbhheaaGreatLMachineF2
noncomputable section
namespace Go.AE.F
open Go.AE
def zAB.l8 {R:Type} (N:Nat) (d:Int×List Int×Unit) (kn:Int×List Int×Unit→Option R) (kx:List Int×Unit→Option R):Option R :=
 let x10:=d.1;
 let x11:=d.2.1;
 ifB (pLt x10 (pLen x11)) (
 ifB (pLe 0 x10) (
 ifB (pLe x10 (pLen x11)) (
 ifB (pLe (pLen x11) (pLen x11)) (
 ifB (pLe 0 0) (
 ifB (pLe 0 x10) (
 ifB (pLe x10 (pLen x11)) (
 kn ((pAdd .i64 x10 (pMin (pDif (pLen x11) x10) (pLen (sub x11 0 x10)))),(pCopy x11 x10 (pMin (pDif (pLen x11) x10) (pLen (sub x11 0 x10))) (sub x11 0 x10)),())) (
 none)) (
 none)) (
 none)) (
 none)) (
 none)) (
 none)) (
 kx (x11,()))
def zAB (N:Nat) (a0:List (Int)) (a1:Int):Option (List Int) :=
 ifB (pLt a1 0) (
 none) (
 bindO (zCZ N (pConv .u64 (pLen a0)) (pConv .u64 a1)) fun y8 =>
 bindO (
 ifB (pGt y8.1 0) (
 some true) (
 some (pGt y8.2 9223372036854775807))) fun y9 =>
 ifB y9 (
 none) (
 ifB (pEq (pConv .i64 y8.2) (pConv .i64 y8.2)) (
 ifB (pLe 0 (pConv .i64 y8.2)) (
 ifB (pLe (pConv .i64 y8.2) 68719476736) (
 loopP (zAB.l8 N) N ((pMin (pDif (pLen (pRepl (pConv .i64 y8.2) (0:Int))) 0) (pLen a0)),(pCopy (pRepl (pConv .i64 y8.2) (0:Int)) 0 (pMin (pDif (pLen (pRepl (pConv .i64 y8.2) (0:Int))) 0) (pLen a0)) a0),()) (
 fun d =>
 let x12:=d.1;
 some x12)) (
 none)) (
 none)) (
 none)))
def zDA (N:Nat) (a0:Int):Option (Int×Int) :=
 ifB (pEq a0 2) (
 some (0,1)) (
 ifB (pEq a0 3) (
 some (0,1)) (
 ifB (pEq a0 5) (
 some (0,1)) (
 ifB (pEq a0 6) (
 some (0,1)) (
 ifB (pEq a0 7) (
 some (0,1)) (
 ifB (pEq a0 4) (
 some (1,0)) (
 ifB (pEq a0 12) (
 some (1,0)) (
 ifB (pEq a0 13) (
 some (1,0)) (
 ifB (pEq a0 15) (
 some (1,0)) (
 ifB (pEq a0 16) (
 some (1,0)) (
 ifB (pEq a0 8) (
 some (1,1)) (
 ifB (pEq a0 9) (
 some (1,1)) (
 ifB (pEq a0 10) (
 some (2,1)) (
 ifB (pEq a0 14) (
 some (2,0)) (
 some (0,0)))))))))))))))
def zAN.l24 {R:Type} (N:Nat) (d:(List (Int×Int×Unit))×Int×Int×Int×Int×Int×List Int×List Int×List Int×Unit) (kn:(List (Int×Int×Unit))×Int×Int×Int×Int×Int×List Int×List Int×List Int×Unit→Option R) (kx:((List (Int×Int×Unit))×Int×List Int×List Int×Unit) ⊕ (Bool×List Int×Unit)→Option R):Option R :=
 let x159:=d.1;
 let x160:=d.2.1;
 let x161:=d.2.2.1;
 let x162:=d.2.2.2.1;
 let x163:=d.2.2.2.2.1;
 let x164:=d.2.2.2.2.2.1;
 let x165:=d.2.2.2.2.2.2.1;
 let x166:=d.2.2.2.2.2.2.2.1;
 let x167:=d.2.2.2.2.2.2.2.2.1;
 ifB (pLt x163 x162) (
 bindO (A:=((List (Int×Int×Unit))×Int×Int×Int×Int×Int×List Int×List Int×List Int×Unit) ⊕ (Bool×List Int×Unit)) (
 bindO (idx x167 x163) fun y168 =>
 bindO (idx x167 x163) fun y169 =>
 bindO (idx x165 y169) fun y170 =>
 bindO (idx x165 y169) fun y171 =>
 ifB (pEq y171 (-1)) (
 bindO (idx x165 y169) fun y172 =>
 bindO (idx x165 y169) fun y173 =>
 ifB (pFit x166 [y169]) (
 some (.inl (x159,x160,x161,x162,x163,x164,(pSet x165 y169 (pAdd .i64 x161 x160)),(pApp x166 [y169]),x167,()))) (
 none)) (
 ifB (pEq y171 (pAdd .i64 x161 x160)) (
 some (.inl (x159,x160,x161,x162,x163,x164,x165,x166,x167,()))) (
 some (.inr (false,[],()))))) (
 onSum (fun d =>
 let x174:=d.1;
 let x175:=d.2.1;
 let x176:=d.2.2.1;
 let x177:=d.2.2.2.1;
 let x178:=d.2.2.2.2.1;
 let x179:=d.2.2.2.2.2.1;
 let x180:=d.2.2.2.2.2.2.1;
 let x181:=d.2.2.2.2.2.2.2.1;
 let x182:=d.2.2.2.2.2.2.2.2.1;
 kn (x174,x175,x176,x177,(pAdd .i64 x178 1),x179,x180,x181,x182,())) (
 fun d =>
 let x183:=d.1;
 let x184:=d.2.1;
 kx (.inr (x183,x184,()))))) (
 kx (.inl (x159,x164,x165,x166,())))
def zAN.l7 {R:Type} (N:Nat) (d:(List (Int×Int×Unit))×Int×List Int×List Int×Unit) (kn:(List (Int×Int×Unit))×Int×List Int×List Int×Unit→Option R) (kx:(List Int×Unit) ⊕ (Bool×List Int×Unit)→Option R):Option R :=
 let x145:=d.1;
 let x146:=d.2.1;
 let x147:=d.2.2.1;
 let x148:=d.2.2.2.1;
 ifB (pGt (pLen x148) 0) (
 bindO (idx x148 (pSub .i64 (pLen x148) 1)) fun y149 =>
 bindO (idx x148 (pSub .i64 (pLen x148) 1)) fun y150 =>
 ifB (pLe 0 0) (
 ifB (pLe 0 (pSub .i64 (pLen x148) 1)) (
 ifB (pLe (pSub .i64 (pLen x148) 1) (pLen x148)) (
 ifB (pEq y150 x146) (
 bindO (idx x147 x146) fun y151 =>
 bindO (idx x147 x146) fun y152 =>
 ifB (pNe y152 0) (
 kx (.inr (false,[],()))) (
 kn (x145,x146,x147,(sub x148 0 (pSub .i64 (pLen x148) 1)),()))) (
 bindO (idx x145 y150) fun y153 =>
 bindO (zDA N y153.1) fun y154 =>
 bindO (idx x147 y150) fun y155 =>
 bindO (idx x147 y150) fun y156 =>
 bindO (
 ifB (pLt (pSub .i64 y156 y154.1) 0) (
 some true) (
 some (pGt (pAdd .i64 (pSub .i64 y156 y154.1) y154.2) 24))) fun y157 =>
 ifB y157 (
 kx (.inr (false,[],()))) (
 ifB (pNe y153.1 11) (
 ifB (pFit [] [(pAdd .i64 y150 1)]) (
 bindO (
 ifB (pEq y153.1 11) (
 some true) (
 some (pEq y153.1 12))) fun y158 =>
 ifB y158 (
 ifB (pFit (pApp [] [(pAdd .i64 y150 1)]) [y153.2.1]) (
 loopP (zAN.l24 N) N (x145,y154.2,(pSub .i64 y156 y154.1),(pLen (pApp (pApp [] [(pAdd .i64 y150 1)]) [y153.2.1])),0,x146,x147,(sub x148 0 (pSub .i64 (pLen x148) 1)),(pApp (pApp [] [(pAdd .i64 y150 1)]) [y153.2.1]),()) (
 onSum (fun d =>
 let x185:=d.1;
 let x186:=d.2.1;
 let x187:=d.2.2.1;
 let x188:=d.2.2.2.1;
 kn (x185,x186,x187,x188,())) (
 fun d =>
 let x189:=d.1;
 let x190:=d.2.1;
 kx (.inr (x189,x190,()))))) (
 none)) (
 loopP (zAN.l24 N) N (x145,y154.2,(pSub .i64 y156 y154.1),(pLen (pApp [] [(pAdd .i64 y150 1)])),0,x146,x147,(sub x148 0 (pSub .i64 (pLen x148) 1)),(pApp [] [(pAdd .i64 y150 1)]),()) (
 onSum (fun d =>
 let x217:=d.1;
 let x218:=d.2.1;
 let x219:=d.2.2.1;
 let x220:=d.2.2.2.1;
 kn (x217,x218,x219,x220,())) (
 fun d =>
 let x221:=d.1;
 let x222:=d.2.1;
 kx (.inr (x221,x222,())))))) (
 none)) (
 bindO (
 ifB (pEq y153.1 11) (
 some true) (
 some (pEq y153.1 12))) fun y223 =>
 ifB y223 (
 ifB (pFit [] [y153.2.1]) (
 loopP (zAN.l24 N) N (x145,y154.2,(pSub .i64 y156 y154.1),(pLen (pApp [] [y153.2.1])),0,x146,x147,(sub x148 0 (pSub .i64 (pLen x148) 1)),(pApp [] [y153.2.1]),()) (
 onSum (fun d =>
 let x250:=d.1;
 let x251:=d.2.1;
 let x252:=d.2.2.1;
 let x253:=d.2.2.2.1;
 kn (x250,x251,x252,x253,())) (
 fun d =>
 let x254:=d.1;
 let x255:=d.2.1;
 kx (.inr (x254,x255,()))))) (
 none)) (
 loopP (zAN.l24 N) N (x145,y154.2,(pSub .i64 y156 y154.1),(pLen ([]:List Int)),0,x146,x147,(sub x148 0 (pSub .i64 (pLen x148) 1)),[],()) (
 onSum (fun d =>
 let x282:=d.1;
 let x283:=d.2.1;
 let x284:=d.2.2.1;
 let x285:=d.2.2.2.1;
 kn (x282,x283,x284,x285,())) (
 fun d =>
 let x286:=d.1;
 let x287:=d.2.1;
 kx (.inr (x286,x287,()))))))))) (
 none)) (
 none)) (
 none)) (
 kx (.inl (x147,())))
def zAN (N:Nat) (a0:List (Int×Int×Unit)):Option (List Int×Bool) :=
 bindO (zBE N a0) fun y139 =>
 bindO (
 ifB (pGt y139 1500) (
 some true) (
 bindO (zAG N a0 y139) fun y141 =>
 some y141)) fun y140 =>
 ifB y140 (
 some ([],false)) (
 bindO (zAB N [(-1)] (pAdd .i64 y139 1)) fun y142 =>
 bindO (idx y142 0) fun y143 =>
 bindO (idx y142 0) fun y144 =>
 loopP (zAN.l7 N) N (a0,y139,(pSet y142 0 0),[0],()) (
 onSum (fun d =>
 let x288:=d.1;
 some (x288,true)) (
 fun d =>
 let x289:=d.1;
 let x290:=d.2.1;
 some (x290,x289))))
def zCN (N:Nat) (a0:List (Int×Int×Unit)):Option (Bool) :=
 bindO (zAN N a0) fun y1 =>
 some y1.2
def zBO (N:Nat) (a0:List (Int)×Int×Int×Int×Unit):Option (Int×List Int×Int×Int×Int×Unit) :=
 bindO (zA9 N a0 14) fun y15 =>
 ifB (pEq y15.1 0) (
 some (32,y15.2)) (
 ifB (pEq y15.1 1) (
 some (10,y15.2)) (
 ifB (pEq y15.1 2) (
 bindO (zA9 N y15.2 5) fun y16 =>
 bindO (idx ([0,9,27,31,127]:List Int) y16.1) fun y17 =>
 bindO (idx ([0,9,27,31,127]:List Int) y16.1) fun y18 =>
 some (y18,y16.2)) (
 ifB (pEq y15.1 3) (
 bindO (zA9 N y15.2 20) fun y19 =>
 bindO (idx ([768,879,880,4352,4447,4448,11903,11904,42191,42192,44032,55203,63744,64255,65281,65376,65377,127744,129791,129792]:List Int) y19.1) fun y20 =>
 bindO (idx ([768,879,880,4352,4447,4448,11903,11904,42191,42192,44032,55203,63744,64255,65281,65376,65377,127744,129791,129792]:List Int) y19.1) fun y21 =>
 some (y21,y19.2)) (
 ifB (pEq y15.1 4) (
 bindO (zA9 N y15.2 8) fun y22 =>
 bindO (idx ([233,960,8364,65533,1114111,65535,55295,57344]:List Int) y22.1) fun y23 =>
 bindO (idx ([233,960,8364,65533,1114111,65535,55295,57344]:List Int) y22.1) fun y24 =>
 some (y24,y22.2)) (
 ifB (pEq y15.1 5) (
 bindO (zA9 N y15.2 5) fun y25 =>
 bindO (idx ([46,44,45,40,36]:List Int) y25.1) fun y26 =>
 bindO (idx ([46,44,45,40,36]:List Int) y25.1) fun y27 =>
 some (y27,y25.2)) (
 ifB (pEq y15.1 6) (
 bindO (zA9 N y15.2 10) fun y28 =>
 some ((pAdd .i64 48 y28.1),y28.2)) (
 bindO (zA9 N y15.2 6) fun y29 =>
 some ((pAdd .i64 97 y29.1),y29.2))))))))
def zAK.l2 {R:Type} (N:Nat) (d:Int×(List Int×Int×Int×Int×Unit)×List Int×Unit) (kn:Int×(List Int×Int×Int×Int×Unit)×List Int×Unit→Option R) (kx:(List Int×Int×Int×Int×Unit)×List Int×Unit→Option R):Option R :=
 let x13:=d.1;
 let x14:=d.2.1;
 let x15:=d.2.2.1;
 ifB (pGt x13 0) (
 bindO (zBO N x14) fun y16 =>
 ifB (pFit x15 [y16.1]) (
 kn ((pSub .i64 x13 1),y16.2,(pApp x15 [y16.1]),())) (
 none)) (
 kx (x14,x15,()))
def zAK (N:Nat) (a0:List (Int)×Int×Int×Int×Unit) (a1:Int):Option (List Int×List Int×Int×Int×Int×Unit) :=
 loopP (zAK.l2 N) N (a1,a0,[],()) (
 fun d =>
 let x17:=d.1;
 let x18:=d.2.1;
 some (x18,x17))
def zB1.l1 {R:Type} (N:Nat) (d:Int×(List Int×Int×Int×Unit)×Unit) (kn:Int×(List Int×Int×Int×Unit)×Unit→Option R) (kx:Int×Unit→Option R):Option R :=
 let x10:=d.1;
 let x11:=d.2.1;
 bindO (
 ifB (pGt x10 0) (
 bindO (idx x11.1 (pSub .i64 x10 1)) fun y13 =>
 some (pNe y13 10)) (
 some false)) fun y12 =>
 ifB y12 (
 kn ((pSub .i64 x10 1),x11,())) (
 kx (x10,()))
def zB1 (N:Nat) (a0:List (Int)×Int×Int×Unit) (a1:Int):Option (Int) :=
 loopP (zB1.l1 N) N (a1,a0,()) (
 fun d =>
 let x14:=d.1;
 some x14)
def zB3.l3 {R:Type} (N:Nat) (d:Int×Int×Int×(List Int×Int×Int×Unit)×(Int×Int×Unit)×Unit) (kn:Int×Int×Int×(List Int×Int×Int×Unit)×(Int×Int×Unit)×Unit→Option R) (kx:Int×Int×(List Int×Int×Int×Unit)×(Int×Int×Unit)×Unit→Option R):Option R :=
 let x27:=d.1;
 let x28:=d.2.1;
 let x29:=d.2.2.1;
 let x30:=d.2.2.2.1;
 let x31:=d.2.2.2.2.1;
 ifB (pLt x29 x27) (
 bindO (A:=Int×Int×Int×(List Int×Int×Int×Unit)×(Int×Int×Unit)×Unit) (
 bindO (idx x30.1 x29) fun y32 =>
 ifB (pEq y32 10) (
 some (x27,(pAdd .i64 x28 1),x29,x30,x31,())) (
 some (x27,x28,x29,x30,x31,()))) (
 fun d =>
 let x33:=d.1;
 let x34:=d.2.1;
 let x35:=d.2.2.1;
 let x36:=d.2.2.2.1;
 let x37:=d.2.2.2.2.1;
 kn (x33,x34,(pAdd .i64 x35 1),x36,x37,()))) (
 kx (x27,x28,x30,x31,()))
def zB3 (N:Nat) (a0:List (Int)×Int×Int×Unit) (a1:Int):Option (Int×Int×Unit) :=
 loopP (zB3.l3 N) N (a1,0,0,a0,(0,(0,())),()) (
 fun d =>
 let x38:=d.1;
 let x39:=d.2.1;
 let x40:=d.2.2.1;
 let x41:=d.2.2.2.1;
 bindO (zB1 N x40 x38) fun y42 =>
 some (x39,((pSub .i64 x38 y42),())))
def zCR (N:Nat) (a0:List (Int)×Int×Int×Unit):Option (Int) :=
 bindO (zBN N a0) fun y2 =>
 ifB (pNot y2) (
 some 0) (
 bindO (zB3 N a0 (pLen a0.1)) fun y3 =>
 some (pAdd .i64 y3.1 1))
def zD1 (N:Nat) (a0:Int) (a1:Int):Option (Int) :=
 ifB (pLt a0 a1) (
 some a0) (
 some a1)
def zD2 (N:Nat) (a0:Int) (a1:Int):Option (Int) :=
 ifB (pGt a0 a1) (
 some a0) (
 some a1)
end Go.AE.F
end
