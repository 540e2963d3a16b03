/- Functions as they are printed out of the program: plain Lean, nothing is claimed here. -/
import Derived.Test.YtkknmokglbhheaaGreatLMachineF12
noncomputable section
namespace Go.AE.F
open Go.AE
def zA4.l17 {R:Type} (N:Nat) (d:Int×(List Int×Int×Int×Int×Unit)×(List (Int×Int×Unit))×Unit) (kn:Int×(List Int×Int×Int×Int×Unit)×(List (Int×Int×Unit))×Unit→Option R) (kx:(List Int×Int×Int×Int×Unit)×(List (Int×Int×Unit))×Unit→Option R):Option R :=
 let x103:=d.1;
 let x104:=d.2.1;
 let x105:=d.2.2.1;
 ifB (pGt x103 0) (
 ifB (pFit x105 [(2,(0,()))]) (
 kn ((pSub .i64 x103 1),x104,(pApp x105 [(2,(0,()))]),())) (
 none)) (
 kx (x104,x105,()))
def zA4.l20 {R:Type} (N:Nat) (d:(List Int×Int×Int×Int×Unit)×(List (Int×Int×Unit))×Unit) (kn:(List Int×Int×Int×Int×Unit)×(List (Int×Int×Unit))×Unit→Option R) (kx:(List Int×Int×Int×Int×Unit)×(List (Int×Int×Unit))×Unit→Option R):Option R :=
 let x108:=d.1;
 let x109:=d.2.1;
 ifB (pLt (pLen x109) 50) (
 ifB (pFit x109 [(15,(0,()))]) (
 kn (x108,(pApp x109 [(15,(0,()))]),())) (
 none)) (
 kx (x108,x109,()))
def zA4 (N:Nat) (a0:List (Int)×Int×Int×Int×Unit):Option ((List (Int×Int×Unit))×List Int×Int×Int×Int×Unit) :=
 bindO (zA3 N a0) fun y90 =>
 bindO (zDB N y90.1) fun y91 =>
 ifB (pFit [] y91) (
 bindO (zAI N y90.2 3) fun y92 =>
 bindO (
 ifB y92.1 (
 some (pGt (pLen (pApp [] y91)) 0)) (
 some false)) fun y93 =>
 ifB y93 (
 bindO (zA9 N y92.2 (pLen (pApp [] y91))) fun y94 =>
 bindO (zA9 N y94.2 4) fun y95 =>
 ifB (pEq y95.1 0) (
 bindO (zA9 N y95.2 20) fun y96 =>
 bindO (zA9 N y96.2 30) fun y97 =>
 bindO (idx (pApp [] y91) y94.1) fun y98 =>
 bindO (idx (pApp [] y91) y94.1) fun y99 =>
 bindO (zAI N y97.2 30) fun y100 =>
 ifB y100.1 (
 bindO (zAI N y100.2 40) fun y101 =>
 ifB y101.1 (
 bindO (zA9 N y101.2 4) fun y102 =>
 loopP (zA4.l17 N) N ((pAdd .i64 y102.1 23),y102.2,[],()) (
 fun d =>
 let x106:=d.1;
 let x107:=d.2.1;
 loopP (zA4.l20 N) N (x106,x107,()) (
 fun d =>
 let x110:=d.1;
 let x111:=d.2.1;
 some (x111,x110)))) (
 some ([(11,(0,()))],y101.2))) (
 bindO (zAI N y100.2 40) fun y112 =>
 ifB y112.1 (
 bindO (zA9 N y112.2 4) fun y113 =>
 loopP (zA4.l17 N) N ((pAdd .i64 y113.1 23),y113.2,[],()) (
 fun d =>
 let x117:=d.1;
 let x118:=d.2.1;
 loopP (zA4.l20 N) N (x117,x118,()) (
 fun d =>
 let x121:=d.1;
 let x122:=d.2.1;
 some (x122,x121)))) (
 some ((pSet (pApp [] y91) y94.1 (y96.1,((pSub .i64 y97.1 1),()))),y112.2)))) (
 ifB (pEq y95.1 1) (
 ifB (pLe 0 0) (
 ifB (pLe 0 y94.1) (
 ifB (pLe y94.1 (pLen (pApp [] y91))) (
 ifB (pLe 0 (pAdd .i64 y94.1 1)) (
 ifB (pLe (pAdd .i64 y94.1 1) (pLen (pApp [] y91))) (
 ifB (pLe (pLen (pApp [] y91)) (pLen (pApp [] y91))) (
 ifB (pFit (sub (pApp [] y91) 0 y94.1) (sub (pApp [] y91) (pAdd .i64 y94.1 1) (pLen (pApp [] y91)))) (
 bindO (zAI N y95.2 30) fun y123 =>
 ifB y123.1 (
 bindO (zAI N y123.2 40) fun y124 =>
 ifB y124.1 (
 bindO (zA9 N y124.2 4) fun y125 =>
 loopP (zA4.l17 N) N ((pAdd .i64 y125.1 23),y125.2,[],()) (
 fun d =>
 let x129:=d.1;
 let x130:=d.2.1;
 loopP (zA4.l20 N) N (x129,x130,()) (
 fun d =>
 let x133:=d.1;
 let x134:=d.2.1;
 some (x134,x133)))) (
 some ([(11,(0,()))],y124.2))) (
 bindO (zAI N y123.2 40) fun y135 =>
 ifB y135.1 (
 bindO (zA9 N y135.2 4) fun y136 =>
 loopP (zA4.l17 N) N ((pAdd .i64 y136.1 23),y136.2,[],()) (
 fun d =>
 let x140:=d.1;
 let x141:=d.2.1;
 loopP (zA4.l20 N) N (x140,x141,()) (
 fun d =>
 let x144:=d.1;
 let x145:=d.2.1;
 some (x145,x144)))) (
 some ((pApp (sub (pApp [] y91) 0 y94.1) (sub (pApp [] y91) (pAdd .i64 y94.1 1) (pLen (pApp [] y91)))),y135.2)))) (
 none)) (
 none)) (
 none)) (
 none)) (
 none)) (
 none)) (
 none)) (
 ifB (pEq y95.1 2) (
 bindO (idx (pApp [] y91) y94.1) fun y146 =>
 bindO (idx (pApp [] y91) y94.1) fun y147 =>
 ifB (pFit (pApp [] y91) [y147]) (
 bindO (zAI N y95.2 30) fun y148 =>
 ifB y148.1 (
 bindO (zAI N y148.2 40) fun y149 =>
 ifB y149.1 (
 bindO (zA9 N y149.2 4) fun y150 =>
 loopP (zA4.l17 N) N ((pAdd .i64 y150.1 23),y150.2,[],()) (
 fun d =>
 let x154:=d.1;
 let x155:=d.2.1;
 loopP (zA4.l20 N) N (x154,x155,()) (
 fun d =>
 let x158:=d.1;
 let x159:=d.2.1;
 some (x159,x158)))) (
 some ([(11,(0,()))],y149.2))) (
 bindO (zAI N y148.2 40) fun y160 =>
 ifB y160.1 (
 bindO (zA9 N y160.2 4) fun y161 =>
 loopP (zA4.l17 N) N ((pAdd .i64 y161.1 23),y161.2,[],()) (
 fun d =>
 let x165:=d.1;
 let x166:=d.2.1;
 loopP (zA4.l20 N) N (x165,x166,()) (
 fun d =>
 let x169:=d.1;
 let x170:=d.2.1;
 some (x170,x169)))) (
 some ((pApp (pApp [] y91) [y147]),y160.2)))) (
 none)) (
 bindO (zA9 N y95.2 (pAdd .i64 (pLen (pApp [] y91)) 2)) fun y171 =>
 bindO (idx (pApp [] y91) y94.1) fun y172 =>
 bindO (idx (pApp [] y91) y94.1) fun y173 =>
 bindO (zAI N y171.2 30) fun y174 =>
 ifB y174.1 (
 bindO (zAI N y174.2 40) fun y175 =>
 ifB y175.1 (
 bindO (zA9 N y175.2 4) fun y176 =>
 loopP (zA4.l17 N) N ((pAdd .i64 y176.1 23),y176.2,[],()) (
 fun d =>
 let x180:=d.1;
 let x181:=d.2.1;
 loopP (zA4.l20 N) N (x180,x181,()) (
 fun d =>
 let x184:=d.1;
 let x185:=d.2.1;
 some (x185,x184)))) (
 some ([(11,(0,()))],y175.2))) (
 bindO (zAI N y174.2 40) fun y186 =>
 ifB y186.1 (
 bindO (zA9 N y186.2 4) fun y187 =>
 loopP (zA4.l17 N) N ((pAdd .i64 y187.1 23),y187.2,[],()) (
 fun d =>
 let x191:=d.1;
 let x192:=d.2.1;
 loopP (zA4.l20 N) N (x191,x192,()) (
 fun d =>
 let x195:=d.1;
 let x196:=d.2.1;
 some (x196,x195)))) (
 some ((pSet (pApp [] y91) y94.1 (y173.1,(y171.1,y173.2.2))),y186.2))))))) (
 bindO (zAI N y92.2 30) fun y197 =>
 ifB y197.1 (
 bindO (zAI N y197.2 40) fun y198 =>
 ifB y198.1 (
 bindO (zA9 N y198.2 4) fun y199 =>
 loopP (zA4.l17 N) N ((pAdd .i64 y199.1 23),y199.2,[],()) (
 fun d =>
 let x203:=d.1;
 let x204:=d.2.1;
 loopP (zA4.l20 N) N (x203,x204,()) (
 fun d =>
 let x207:=d.1;
 let x208:=d.2.1;
 some (x208,x207)))) (
 some ([(11,(0,()))],y198.2))) (
 bindO (zAI N y197.2 40) fun y209 =>
 ifB y209.1 (
 bindO (zA9 N y209.2 4) fun y210 =>
 loopP (zA4.l17 N) N ((pAdd .i64 y210.1 23),y210.2,[],()) (
 fun d =>
 let x214:=d.1;
 let x215:=d.2.1;
 loopP (zA4.l20 N) N (x214,x215,()) (
 fun d =>
 let x218:=d.1;
 let x219:=d.2.1;
 some (x219,x218)))) (
 some ((pApp [] y91),y209.2))))) (
 none)
def zBU (N:Nat) (a0:List (Int)×Int×Int×Int×Unit):Option (Int×List Int×Int×Int×Int×Unit) :=
 bindO (zAI N a0 15) fun y6 =>
 ifB y6.1 (
 bindO (zA9 N y6.2 4) fun y7 =>
 bindO (idx ([(-1),0,5000,5001]:List Int) y7.1) fun y8 =>
 bindO (idx ([(-1),0,5000,5001]:List Int) y7.1) fun y9 =>
 some (y9,y7.2)) (
 bindO (zAI N y6.2 4) fun y10 =>
 ifB y10.1 (
 bindO (zA9 N y10.2 30) fun y11 =>
 some (y11.1,y11.2)) (
 some (500,y10.2)))
def zBV (N:Nat) (a0:List (Int)):Option ((List (Int×Int×Unit))×(List Int×Int×Int×Unit)×Int) :=
 bindO (zB0 N a0) fun y4 =>
 bindO (zA4 N y4) fun y5 =>
 bindO (zBY N y5.2) fun y6 =>
 bindO (zBU N y6.2) fun y7 =>
 some (y5.1,y6.1,y7.1)
def zCX (N:Nat) (a0:List (Int)):Option (Bool) :=
 ifB (pGt (pLen a0) 1048576) (
 some true) (
 bindO (zBV N a0) fun y13 =>
 bindO (zCC N y13.1 y13.2.1 y13.2.2) fun y14 =>
 ifB (pFit [] y13.1) (
 bindO (zC2 N (pApp [] y13.1) y13.2.1 y13.2.2) fun y15 =>
 ifB (pNe y15.2.2.2.1 y14.2.2.2.1) (
 some false) (
 bindO (
 ifB (pEq y14.2.2.2.1 1) (
 some true) (
 some (pEq y14.2.2.2.1 2))) fun y16 =>
 ifB y16 (
 some true) (
 ifB (pFit [] y13.1) (
 bindO (zBX N (pApp [] y13.1) y13.2.1 y13.2.2) fun y17 =>
 ifB (pNe y14.2.2.2.1 0) (
 bindO (zDF N y15.1 y13.2.1) fun y18 =>
 bindO (
 ifB y18 (
 some (pEq y17 (-1))) (
 some false)) fun y19 =>
 some y19) (
 bindO (zC6 N y15.1) fun y20 =>
 bindO (
 ifB y20 (
 some (pGe y17 0)) (
 some false)) fun y21 =>
 bindO (
 ifB y21 (
 some (pLe y17 (pMul .i64 40 (pAdd .i64 y13.2.2 1)))) (
 some false)) fun y22 =>
 bindO (
 ifB y22 (
 some (pLe y15.2.1 y13.2.2)) (
 some false)) fun y23 =>
 bindO (
 ifB y23 (
 bindO (zDF N y15.1 y14.1) fun y25 =>
 some y25) (
 some false)) fun y24 =>
 some y24)) (
 none)))) (
 none))
end Go.AE.F
end
