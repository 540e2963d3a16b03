/- Functions as they are printed out of the program: plain Lean, nothing is claimed here. -/
import Derived.Test.YtkknmokglbhheaaGreatLMachineF10
noncomputable section
namespace Go.AE.F
open Go.AE
def zA3 (N:Nat) (a0:List (Int)×Int×Int×Int×Unit):Option ((List (Int×Int×ByteArray×Int×Unit))×List Int×Int×Int×Int×Unit) :=
 bindO (zA8 N a0 3) fun y104 =>
 bindO (zAI N y104.2 12) fun y105 =>
 ifB y105.1 (
 bindO (zA9 N y105.2 (pLen y104.1)) fun y106 =>
 bindO (zA9 N y106.2 5) fun y107 =>
 ifB (pEq y107.1 0) (
 bindO (zA9 N y107.2 4) fun y108 =>
 bindO (idx y104.1 y106.1) fun y109 =>
 bindO (idx y104.1 y106.1) fun y110 =>
 bindO (zAI N y108.2 40) fun y111 =>
 ifB y111.1 (
 bindO (zA9 N y111.2 3) fun y112 =>
 loopP (zA3.l17 N) N (0,y112.2,[(1,(0,((ByteArray.mk #[]),((pAdd .i64 198 y112.1),()))))],()) (
 fun d =>
 let x118:=d.1;
 let x119:=d.2.1;
 bindO (zAI N x118 40) fun y120 =>
 ifB y120.1 (
 bindO (zA9 N y120.2 4) fun y121 =>
 loopP (zA3.l23 N) N ((pAdd .i64 y121.1 15),y121.2,[(1,(0,((ByteArray.mk #[]),(1,())))),(7,(0,((ByteArray.mk #[]),(1,()))))],()) (
 fun d =>
 let x125:=d.1;
 let x126:=d.2.1;
 ifB (pFit x126 [(13,(0,((ByteArray.mk #[]),(0,()))))]) (
 some ((pApp x126 [(13,(0,((ByteArray.mk #[]),(0,()))))]),x125)) (
 none))) (
 some (x119,y120.2)))) (
 bindO (zAI N y111.2 40) fun y127 =>
 ifB y127.1 (
 bindO (zA9 N y127.2 4) fun y128 =>
 loopP (zA3.l23 N) N ((pAdd .i64 y128.1 15),y128.2,[(1,(0,((ByteArray.mk #[]),(1,())))),(7,(0,((ByteArray.mk #[]),(1,()))))],()) (
 fun d =>
 let x132:=d.1;
 let x133:=d.2.1;
 ifB (pFit x133 [(13,(0,((ByteArray.mk #[]),(0,()))))]) (
 some ((pApp x133 [(13,(0,((ByteArray.mk #[]),(0,()))))]),x132)) (
 none))) (
 some ((pSet y104.1 y106.1 (y110.1,(y110.2.1,(y110.2.2.1,(y108.1,y110.2.2.2.2))))),y127.2)))) (
 ifB (pEq y107.1 1) (
 bindO (zA9 N y107.2 28) fun y134 =>
 bindO (idx y104.1 y106.1) fun y135 =>
 bindO (idx y104.1 y106.1) fun y136 =>
 bindO (zAI N y134.2 40) fun y137 =>
 ifB y137.1 (
 bindO (zA9 N y137.2 3) fun y138 =>
 loopP (zA3.l17 N) N (0,y138.2,[(1,(0,((ByteArray.mk #[]),((pAdd .i64 198 y138.1),()))))],()) (
 fun d =>
 let x144:=d.1;
 let x145:=d.2.1;
 bindO (zAI N x144 40) fun y146 =>
 ifB y146.1 (
 bindO (zA9 N y146.2 4) fun y147 =>
 loopP (zA3.l23 N) N ((pAdd .i64 y147.1 15),y147.2,[(1,(0,((ByteArray.mk #[]),(1,())))),(7,(0,((ByteArray.mk #[]),(1,()))))],()) (
 fun d =>
 let x151:=d.1;
 let x152:=d.2.1;
 ifB (pFit x152 [(13,(0,((ByteArray.mk #[]),(0,()))))]) (
 some ((pApp x152 [(13,(0,((ByteArray.mk #[]),(0,()))))]),x151)) (
 none))) (
 some (x145,y146.2)))) (
 bindO (zAI N y137.2 40) fun y153 =>
 ifB y153.1 (
 bindO (zA9 N y153.2 4) fun y154 =>
 loopP (zA3.l23 N) N ((pAdd .i64 y154.1 15),y154.2,[(1,(0,((ByteArray.mk #[]),(1,())))),(7,(0,((ByteArray.mk #[]),(1,()))))],()) (
 fun d =>
 let x158:=d.1;
 let x159:=d.2.1;
 ifB (pFit x159 [(13,(0,((ByteArray.mk #[]),(0,()))))]) (
 some ((pApp x159 [(13,(0,((ByteArray.mk #[]),(0,()))))]),x158)) (
 none))) (
 some ((pSet y104.1 y106.1 (y134.1,y136.2)),y153.2)))) (
 ifB (pEq y107.1 2) (
 bindO (zC8 N y107.2) fun y160 =>
 bindO (idx y104.1 y106.1) fun y161 =>
 bindO (idx y104.1 y106.1) fun y162 =>
 bindO (zAI N y160.2 40) fun y163 =>
 ifB y163.1 (
 bindO (zA9 N y163.2 3) fun y164 =>
 loopP (zA3.l17 N) N (0,y164.2,[(1,(0,((ByteArray.mk #[]),((pAdd .i64 198 y164.1),()))))],()) (
 fun d =>
 let x170:=d.1;
 let x171:=d.2.1;
 bindO (zAI N x170 40) fun y172 =>
 ifB y172.1 (
 bindO (zA9 N y172.2 4) fun y173 =>
 loopP (zA3.l23 N) N ((pAdd .i64 y173.1 15),y173.2,[(1,(0,((ByteArray.mk #[]),(1,())))),(7,(0,((ByteArray.mk #[]),(1,()))))],()) (
 fun d =>
 let x177:=d.1;
 let x178:=d.2.1;
 ifB (pFit x178 [(13,(0,((ByteArray.mk #[]),(0,()))))]) (
 some ((pApp x178 [(13,(0,((ByteArray.mk #[]),(0,()))))]),x177)) (
 none))) (
 some (x171,y172.2)))) (
 bindO (zAI N y163.2 40) fun y179 =>
 ifB y179.1 (
 bindO (zA9 N y179.2 4) fun y180 =>
 loopP (zA3.l23 N) N ((pAdd .i64 y180.1 15),y180.2,[(1,(0,((ByteArray.mk #[]),(1,())))),(7,(0,((ByteArray.mk #[]),(1,()))))],()) (
 fun d =>
 let x184:=d.1;
 let x185:=d.2.1;
 ifB (pFit x185 [(13,(0,((ByteArray.mk #[]),(0,()))))]) (
 some ((pApp x185 [(13,(0,((ByteArray.mk #[]),(0,()))))]),x184)) (
 none))) (
 some ((pSet y104.1 y106.1 (y162.1,(y160.1,y162.2.2))),y179.2)))) (
 ifB (pEq y107.1 3) (
 bindO (zBI N y107.2 [(ByteArray.mk #[]),(ByteArray.mk #[108,101,116]),(ByteArray.mk #[122]),(ByteArray.mk #[65]),(ByteArray.mk #[108,101,102,116])]) fun y186 =>
 bindO (idx y104.1 y106.1) fun y187 =>
 bindO (idx y104.1 y106.1) fun y188 =>
 bindO (zAI N y186.2 40) fun y189 =>
 ifB y189.1 (
 bindO (zA9 N y189.2 3) fun y190 =>
 loopP (zA3.l17 N) N (0,y190.2,[(1,(0,((ByteArray.mk #[]),((pAdd .i64 198 y190.1),()))))],()) (
 fun d =>
 let x196:=d.1;
 let x197:=d.2.1;
 bindO (zAI N x196 40) fun y198 =>
 ifB y198.1 (
 bindO (zA9 N y198.2 4) fun y199 =>
 loopP (zA3.l23 N) N ((pAdd .i64 y199.1 15),y199.2,[(1,(0,((ByteArray.mk #[]),(1,())))),(7,(0,((ByteArray.mk #[]),(1,()))))],()) (
 fun d =>
 let x203:=d.1;
 let x204:=d.2.1;
 ifB (pFit x204 [(13,(0,((ByteArray.mk #[]),(0,()))))]) (
 some ((pApp x204 [(13,(0,((ByteArray.mk #[]),(0,()))))]),x203)) (
 none))) (
 some (x197,y198.2)))) (
 bindO (zAI N y189.2 40) fun y205 =>
 ifB y205.1 (
 bindO (zA9 N y205.2 4) fun y206 =>
 loopP (zA3.l23 N) N ((pAdd .i64 y206.1 15),y206.2,[(1,(0,((ByteArray.mk #[]),(1,())))),(7,(0,((ByteArray.mk #[]),(1,()))))],()) (
 fun d =>
 let x210:=d.1;
 let x211:=d.2.1;
 ifB (pFit x211 [(13,(0,((ByteArray.mk #[]),(0,()))))]) (
 some ((pApp x211 [(13,(0,((ByteArray.mk #[]),(0,()))))]),x210)) (
 none))) (
 some ((pSet y104.1 y106.1 (y188.1,(y188.2.1,(y186.1,y188.2.2.2)))),y205.2)))) (
 ifB (pFit y104.1 [(9,(0,((ByteArray.mk #[]),(0,()))))]) (
 bindO (zAI N y107.2 40) fun y212 =>
 ifB y212.1 (
 bindO (zA9 N y212.2 3) fun y213 =>
 loopP (zA3.l17 N) N (0,y213.2,[(1,(0,((ByteArray.mk #[]),((pAdd .i64 198 y213.1),()))))],()) (
 fun d =>
 let x219:=d.1;
 let x220:=d.2.1;
 bindO (zAI N x219 40) fun y221 =>
 ifB y221.1 (
 bindO (zA9 N y221.2 4) fun y222 =>
 loopP (zA3.l23 N) N ((pAdd .i64 y222.1 15),y222.2,[(1,(0,((ByteArray.mk #[]),(1,())))),(7,(0,((ByteArray.mk #[]),(1,()))))],()) (
 fun d =>
 let x226:=d.1;
 let x227:=d.2.1;
 ifB (pFit x227 [(13,(0,((ByteArray.mk #[]),(0,()))))]) (
 some ((pApp x227 [(13,(0,((ByteArray.mk #[]),(0,()))))]),x226)) (
 none))) (
 some (x220,y221.2)))) (
 bindO (zAI N y212.2 40) fun y228 =>
 ifB y228.1 (
 bindO (zA9 N y228.2 4) fun y229 =>
 loopP (zA3.l23 N) N ((pAdd .i64 y229.1 15),y229.2,[(1,(0,((ByteArray.mk #[]),(1,())))),(7,(0,((ByteArray.mk #[]),(1,()))))],()) (
 fun d =>
 let x233:=d.1;
 let x234:=d.2.1;
 ifB (pFit x234 [(13,(0,((ByteArray.mk #[]),(0,()))))]) (
 some ((pApp x234 [(13,(0,((ByteArray.mk #[]),(0,()))))]),x233)) (
 none))) (
 some ((pApp y104.1 [(9,(0,((ByteArray.mk #[]),(0,()))))]),y228.2)))) (
 none)))))) (
 bindO (zAI N y105.2 40) fun y235 =>
 ifB y235.1 (
 bindO (zA9 N y235.2 3) fun y236 =>
 loopP (zA3.l17 N) N (0,y236.2,[(1,(0,((ByteArray.mk #[]),((pAdd .i64 198 y236.1),()))))],()) (
 fun d =>
 let x242:=d.1;
 let x243:=d.2.1;
 bindO (zAI N x242 40) fun y244 =>
 ifB y244.1 (
 bindO (zA9 N y244.2 4) fun y245 =>
 loopP (zA3.l23 N) N ((pAdd .i64 y245.1 15),y245.2,[(1,(0,((ByteArray.mk #[]),(1,())))),(7,(0,((ByteArray.mk #[]),(1,()))))],()) (
 fun d =>
 let x249:=d.1;
 let x250:=d.2.1;
 ifB (pFit x250 [(13,(0,((ByteArray.mk #[]),(0,()))))]) (
 some ((pApp x250 [(13,(0,((ByteArray.mk #[]),(0,()))))]),x249)) (
 none))) (
 some (x243,y244.2)))) (
 bindO (zAI N y235.2 40) fun y251 =>
 ifB y251.1 (
 bindO (zA9 N y251.2 4) fun y252 =>
 loopP (zA3.l23 N) N ((pAdd .i64 y252.1 15),y252.2,[(1,(0,((ByteArray.mk #[]),(1,())))),(7,(0,((ByteArray.mk #[]),(1,()))))],()) (
 fun d =>
 let x256:=d.1;
 let x257:=d.2.1;
 ifB (pFit x257 [(13,(0,((ByteArray.mk #[]),(0,()))))]) (
 some ((pApp x257 [(13,(0,((ByteArray.mk #[]),(0,()))))]),x256)) (
 none))) (
 some (y104.1,y251.2))))
def zBB.l4 {R:Type} (N:Nat) (d:ByteArray×Int×Unit) (kn:ByteArray×Int×Unit→Option R) (kx:(Unit) ⊕ (Bool×Unit)→Option R):Option R :=
 let x22:=d.1;
 let x23:=d.2.1;
 ifB (pLt x23 (pSize x22)) (
 bindO (bidx x22 x23) fun y24 =>
 bindO (
 ifB (pGe y24 97) (
 bindO (bidx x22 x23) fun y26 =>
 some (pLe y26 122)) (
 some false)) fun y25 =>
 bindO (
 ifB y25 (
 some true) (
 bindO (bidx x22 x23) fun y28 =>
 some (pEq y28 45))) fun y27 =>
 ifB (pNot y27) (
 kx (.inr (false,()))) (
 kn (x22,(pAdd .i64 x23 1),()))) (
 kx (.inl (())))
def zBB (N:Nat) (a0:ByteArray):Option (Bool) :=
 bindO (
 ifB (pLt (pSize a0) 1) (
 some true) (
 some (pGt (pSize a0) 20))) fun y21 =>
 ifB y21 (
 some false) (
 loopP (zBB.l4 N) N (a0,0,()) (
 onSum (fun d =>
 some true) (
 fun d =>
 let x29:=d.1;
 some x29)))
def zCO (N:Nat):Option (List ByteArray) :=
 some [(ByteArray.mk #[]),(ByteArray.mk #[]),(ByteArray.mk #[108,101,116]),(ByteArray.mk #[105,102]),(ByteArray.mk #[119,104,105,108,101]),(ByteArray.mk #[105,110,115,101,114,116]),(ByteArray.mk #[100,101,108,101,116,101]),(ByteArray.mk #[103,111]),(ByteArray.mk #[109,97,114,107]),(ByteArray.mk #[98,101,108,108]),(ByteArray.mk #[100,111]),(ByteArray.mk #[]),(ByteArray.mk #[]),(ByteArray.mk #[99,117,114,115,111,114]),(ByteArray.mk #[108,101,110,103,116,104]),(ByteArray.mk #[109,97,114,107,97,116]),(ByteArray.mk #[97,116]),(ByteArray.mk #[110,111,116]),(ByteArray.mk #[111,114]),(ByteArray.mk #[97,110,100]),(ByteArray.mk #[60]),(ByteArray.mk #[61]),(ByteArray.mk #[62]),(ByteArray.mk #[43]),(ByteArray.mk #[45]),(ByteArray.mk #[42]),(ByteArray.mk #[47]),(ByteArray.mk #[101,108,115,101])]
def zBA.l3 {R:Type} (N:Nat) (d:ByteArray×Int×List ByteArray×Unit) (kn:ByteArray×Int×List ByteArray×Unit→Option R) (kx:(Unit) ⊕ (Int×Unit)→Option R):Option R :=
 let x18:=d.1;
 let x19:=d.2.1;
 let x20:=d.2.2.1;
 ifB (pLt x19 (pLen x20)) (
 bindO (idx x20 x19) fun y21 =>
 bindO (idx x20 x19) fun y22 =>
 bindO (
 ifB (pSEq y22 x18) (
 some (pNot (pSEq x18 (ByteArray.mk #[])))) (
 some false)) fun y23 =>
 ifB y23 (
 kx (.inr (x19,()))) (
 kn (x18,(pAdd .i64 x19 1),x20,()))) (
 kx (.inl (())))
def zBA (N:Nat) (a0:ByteArray):Option (Int) :=
 bindO (zCO N) fun y17 =>
 loopP (zBA.l3 N) N (a0,2,y17,()) (
 onSum (fun d =>
 some 0) (
 fun d =>
 let x24:=d.1;
 some x24))
def zD0 (N:Nat) (a0:ByteArray):Option (Bool) :=
 bindO (zBB N a0) fun y5 =>
 bindO (
 ifB y5 (
 bindO (bidx a0 0) fun y7 =>
 some (pNe y7 45)) (
 some false)) fun y6 =>
 bindO (
 ifB y6 (
 bindO (zBA N a0) fun y9 =>
 some (pEq y9 0)) (
 some false)) fun y8 =>
 some y8
def zDC (N:Nat) (a0:Int×Int×ByteArray×Int×Unit):Option (Bool) :=
 bindO (
 ifB (pLt a0.1 1) (
 some true) (
 some (pGt a0.1 26))) fun y10 =>
 ifB y10 (
 some false) (
 ifB (pEq a0.1 11) (
 bindO (
 ifB (pGe a0.2.1 0) (
 some (pLe a0.2.1 999999999)) (
 some false)) fun y11 =>
 bindO (
 ifB y11 (
 some (pSEq a0.2.2.1 (ByteArray.mk #[]))) (
 some false)) fun y12 =>
 some y12) (
 ifB (pEq a0.1 2) (
 bindO (
 ifB (pEq a0.2.1 0) (
 bindO (zD0 N a0.2.2.1) fun y14 =>
 some y14) (
 some false)) fun y13 =>
 some y13) (
 ifB (pEq a0.1 12) (
 bindO (
 ifB (pEq a0.2.1 0) (
 bindO (zD0 N a0.2.2.1) fun y16 =>
 some y16) (
 some false)) fun y15 =>
 some y15) (
 ifB (pEq a0.1 10) (
 bindO (
 ifB (pEq a0.2.1 0) (
 bindO (zAU N a0.2.2.1) fun y18 =>
 some (pGt y18 0)) (
 some false)) fun y17 =>
 some y17) (
 bindO (
 ifB (pEq a0.2.1 0) (
 some (pSEq a0.2.2.1 (ByteArray.mk #[]))) (
 some false)) fun y19 =>
 some y19)))))
def zD6 (N:Nat) (a0:Int):Option (Bool) :=
 bindO (
 ifB (pGe a0 2) (
 some (pLe a0 10)) (
 some false)) fun y1 =>
 some y1
def zD7 (N:Nat) (a0:Int):Option (Bool) :=
 bindO (
 ifB (pGe a0 11) (
 some (pLe a0 26)) (
 some false)) fun y1 =>
 some y1
end Go.AE.F
end
