/- Functions as they are printed out of the program: plain Lean, nothing is claimed here. -/
import Derived.Test.YtkknmokglbhheaaGreatLMachineF1
noncomputable section
namespace Go.AE.F
open Go.AE
def zD3 (N:Nat) (a0:Int×Int×Unit) (a1:Int):Option (Bool) :=
 ifB (pEq a0.1 2) (
 bindO (
 ifB (pGe a0.2.1 0) (
 some (pLe a0.2.1 999999999)) (
 some false)) fun y9 =>
 some y9) (
 ifB (pEq a0.1 3) (
 bindO (
 ifB (pGe a0.2.1 0) (
 some (pLe a0.2.1 7)) (
 some false)) fun y10 =>
 some y10) (
 ifB (pEq a0.1 4) (
 bindO (
 ifB (pGe a0.2.1 0) (
 some (pLe a0.2.1 7)) (
 some false)) fun y11 =>
 some y11) (
 ifB (pEq a0.1 10) (
 bindO (
 ifB (pGe a0.2.1 18) (
 some (pLe a0.2.1 26)) (
 some false)) fun y12 =>
 some y12) (
 ifB (pEq a0.1 11) (
 bindO (
 ifB (pGe a0.2.1 0) (
 some (pLe a0.2.1 a1)) (
 some false)) fun y13 =>
 some y13) (
 ifB (pEq a0.1 12) (
 bindO (
 ifB (pGe a0.2.1 0) (
 some (pLe a0.2.1 a1)) (
 some false)) fun y14 =>
 some y14) (
 ifB (pEq a0.1 18) (
 bindO (
 ifB (pGe a0.2.1 1) (
 some (pLe a0.2.1 10)) (
 some false)) fun y15 =>
 some y15) (
 bindO (
 ifB (pGe a0.1 1) (
 some (pLe a0.1 18)) (
 some false)) fun y16 =>
 bindO (
 ifB y16 (
 some (pEq a0.2.1 0)) (
 some false)) fun y17 =>
 some y17)))))))
def zC1 (N:Nat) (a0:Int):Option (Int×Int) :=
 ifB (pEq a0 2) (
 some (0,1)) (
 ifB (pEq a0 3) (
 some (0,1)) (
 ifB (pEq a0 5) (
 some (0,1)) (
 ifB (pEq a0 6) (
 some (0,1)) (
 ifB (pEq a0 7) (
 some (0,1)) (
 ifB (pEq a0 4) (
 some (1,0)) (
 ifB (pEq a0 12) (
 some (1,0)) (
 ifB (pEq a0 13) (
 some (1,0)) (
 ifB (pEq a0 15) (
 some (1,0)) (
 ifB (pEq a0 16) (
 some (1,0)) (
 ifB (pEq a0 8) (
 some (1,1)) (
 ifB (pEq a0 9) (
 some (1,1)) (
 ifB (pEq a0 10) (
 some (2,1)) (
 ifB (pEq a0 14) (
 some (2,0)) (
 some (0,0)))))))))))))))
def zA7.l4 {R:Type} (N:Nat) (d:(List (Int×Int×Unit))×Int×Int×List Int×Unit) (kn:(List (Int×Int×Unit))×Int×Int×List Int×Unit→Option R) (kx:(List (Int×Int×Unit))×Int×List Int×Unit→Option R):Option R :=
 let x149:=d.1;
 let x150:=d.2.1;
 let x151:=d.2.2.1;
 let x152:=d.2.2.2.1;
 ifB (pLe x151 x150) (
 ifB (pFit x152 [(-1)]) (
 kn (x149,x150,(pAdd .i64 x151 1),(pApp x152 [(-1)]),())) (
 none)) (
 kx (x149,x150,x152,()))
def zA7.l24 {R:Type} (N:Nat) (d:(List (Int×Int×Unit))×Int×Int×Int×List Int×List Int×List Int×Unit) (kn:(List (Int×Int×Unit))×Int×Int×Int×List Int×List Int×List Int×Unit→Option R) (kx:((List (Int×Int×Unit))×Int×List Int×List Int×Unit) ⊕ (Bool×List Int×Unit)→Option R):Option R :=
 let x171:=d.1;
 let x172:=d.2.1;
 let x173:=d.2.2.1;
 let x174:=d.2.2.2.1;
 let x175:=d.2.2.2.2.1;
 let x176:=d.2.2.2.2.2.1;
 let x177:=d.2.2.2.2.2.2.1;
 ifB (pLt x174 (pLen x177)) (
 bindO (A:=((List (Int×Int×Unit))×Int×Int×Int×List Int×List Int×List Int×Unit) ⊕ (Bool×List Int×Unit)) (
 bindO (idx x177 x174) fun y178 =>
 bindO (idx x177 x174) fun y179 =>
 bindO (idx x175 y179) fun y180 =>
 bindO (idx x175 y179) fun y181 =>
 ifB (pEq y181 (-1)) (
 bindO (idx x177 x174) fun y182 =>
 bindO (idx x177 x174) fun y183 =>
 bindO (idx x175 y183) fun y184 =>
 bindO (idx x175 y183) fun y185 =>
 bindO (idx x177 x174) fun y186 =>
 bindO (idx x177 x174) fun y187 =>
 ifB (pFit x176 [y187]) (
 some (.inl (x171,x172,x173,x174,(pSet x175 y183 x173),(pApp x176 [y187]),x177,()))) (
 none)) (
 bindO (idx x177 x174) fun y188 =>
 bindO (idx x177 x174) fun y189 =>
 bindO (idx x175 y189) fun y190 =>
 bindO (idx x175 y189) fun y191 =>
 ifB (pNe y191 x173) (
 some (.inr (false,x175,()))) (
 some (.inl (x171,x172,x173,x174,x175,x176,x177,()))))) (
 onSum (fun d =>
 let x192:=d.1;
 let x193:=d.2.1;
 let x194:=d.2.2.1;
 let x195:=d.2.2.2.1;
 let x196:=d.2.2.2.2.1;
 let x197:=d.2.2.2.2.2.1;
 let x198:=d.2.2.2.2.2.2.1;
 kn (x192,x193,x194,(pAdd .i64 x195 1),x196,x197,x198,())) (
 fun d =>
 let x199:=d.1;
 let x200:=d.2.1;
 kx (.inr (x199,x200,()))))) (
 kx (.inl (x171,x172,x175,x176,())))
def zA7.l9 {R:Type} (N:Nat) (d:(List (Int×Int×Unit))×Int×List Int×List Int×Unit) (kn:(List (Int×Int×Unit))×Int×List Int×List Int×Unit→Option R) (kx:(Int×List Int×Unit) ⊕ (Bool×List Int×Unit)→Option R):Option R :=
 let x158:=d.1;
 let x159:=d.2.1;
 let x160:=d.2.2.1;
 let x161:=d.2.2.2.1;
 ifB (pGt (pLen x161) 0) (
 bindO (idx x161 (pSub .i64 (pLen x161) 1)) fun y162 =>
 bindO (idx x161 (pSub .i64 (pLen x161) 1)) fun y163 =>
 ifB (pLe 0 0) (
 ifB (pLe 0 (pSub .i64 (pLen x161) 1)) (
 ifB (pLe (pSub .i64 (pLen x161) 1) (pLen x161)) (
 ifB (pEq y163 x159) (
 kn (x158,x159,x160,(sub x161 0 (pSub .i64 (pLen x161) 1)),())) (
 bindO (idx x158 y163) fun y164 =>
 bindO (zC1 N y164.1) fun y165 =>
 bindO (idx x160 y163) fun y166 =>
 bindO (idx x160 y163) fun y167 =>
 bindO (
 ifB (pLt (pSub .i64 y167 y165.1) 0) (
 some true) (
 some (pGt (pAdd .i64 (pSub .i64 y167 y165.1) y165.2) 24))) fun y168 =>
 ifB y168 (
 kx (.inr (false,x160,()))) (
 bindO (idx x158 y163) fun y169 =>
 ifB (pEq y169.1 11) (
 bindO (idx x158 y163) fun y170 =>
 loopP (zA7.l24 N) N (x158,x159,(pAdd .i64 (pSub .i64 y167 y165.1) y165.2),0,x160,(sub x161 0 (pSub .i64 (pLen x161) 1)),[y170.2.1],()) (
 onSum (fun d =>
 let x201:=d.1;
 let x202:=d.2.1;
 let x203:=d.2.2.1;
 let x204:=d.2.2.2.1;
 kn (x201,x202,x203,x204,())) (
 fun d =>
 let x205:=d.1;
 let x206:=d.2.1;
 kx (.inr (x205,x206,()))))) (
 bindO (idx x158 y163) fun y207 =>
 ifB (pEq y207.1 12) (
 bindO (idx x158 y163) fun y208 =>
 ifB (pFit [(pAdd .i64 y163 1)] [y208.2.1]) (
 loopP (zA7.l24 N) N (x158,x159,(pAdd .i64 (pSub .i64 y167 y165.1) y165.2),0,x160,(sub x161 0 (pSub .i64 (pLen x161) 1)),(pApp [(pAdd .i64 y163 1)] [y208.2.1]),()) (
 onSum (fun d =>
 let x239:=d.1;
 let x240:=d.2.1;
 let x241:=d.2.2.1;
 let x242:=d.2.2.2.1;
 kn (x239,x240,x241,x242,())) (
 fun d =>
 let x243:=d.1;
 let x244:=d.2.1;
 kx (.inr (x243,x244,()))))) (
 none)) (
 loopP (zA7.l24 N) N (x158,x159,(pAdd .i64 (pSub .i64 y167 y165.1) y165.2),0,x160,(sub x161 0 (pSub .i64 (pLen x161) 1)),[(pAdd .i64 y163 1)],()) (
 onSum (fun d =>
 let x275:=d.1;
 let x276:=d.2.1;
 let x277:=d.2.2.1;
 let x278:=d.2.2.2.1;
 kn (x275,x276,x277,x278,())) (
 fun d =>
 let x279:=d.1;
 let x280:=d.2.1;
 kx (.inr (x279,x280,()))))))))) (
 none)) (
 none)) (
 none)) (
 kx (.inl (x159,x160,())))
def zA7 (N:Nat) (a0:List (Int×Int×Unit)):Option (List Int×Bool) :=
 loopP (zA7.l4 N) N (a0,(pLen a0),0,[],()) (
 fun d =>
 let x153:=d.1;
 let x154:=d.2.1;
 let x155:=d.2.2.1;
 bindO (idx x155 0) fun y156 =>
 bindO (idx x155 0) fun y157 =>
 loopP (zA7.l9 N) N (x153,x154,(pSet x155 0 0),[0],()) (
 onSum (fun d =>
 let x281:=d.1;
 let x282:=d.2.1;
 bindO (idx x282 x281) fun y283 =>
 bindO (idx x282 x281) fun y284 =>
 some (x282,(pLe y284 0))) (
 fun d =>
 let x285:=d.1;
 let x286:=d.2.1;
 some (x286,x285))))
def zAV.l4 {R:Type} (N:Nat) (d:(List (Int×Int×Unit))×Int×Unit) (kn:(List (Int×Int×Unit))×Int×Unit→Option R) (kx:((List (Int×Int×Unit))×Unit) ⊕ (Bool×Unit)→Option R):Option R :=
 let x13:=d.1;
 let x14:=d.2.1;
 ifB (pLt x14 (pLen x13)) (
 bindO (idx x13 x14) fun y15 =>
 bindO (zD3 N y15 (pLen x13)) fun y16 =>
 ifB (pNot y16) (
 kx (.inr (false,()))) (
 kn (x13,(pAdd .i64 x14 1),()))) (
 kx (.inl (x13,())))
def zAV (N:Nat) (a0:List (Int×Int×Unit)):Option (Bool) :=
 ifB (pGt (pLen a0) 1500) (
 some false) (
 loopP (zAV.l4 N) N (a0,0,()) (
 onSum (fun d =>
 let x17:=d.1;
 bindO (zA7 N x17) fun y18 =>
 some y18.2) (
 fun d =>
 let x19:=d.1;
 some x19)))
def zBE (N:Nat) (a0:List (Int×Int×Unit)):Option (Int) :=
 some (pLen a0)
def zD4 (N:Nat) (a0:Int×Int×Unit) (a1:Int):Option (Bool) :=
 ifB (pEq a0.1 2) (
 bindO (zB5 N a0.2.1 0 999999999) fun y9 =>
 some y9) (
 ifB (pEq a0.1 3) (
 bindO (zB5 N a0.2.1 0 7) fun y10 =>
 some y10) (
 ifB (pEq a0.1 4) (
 bindO (zB5 N a0.2.1 0 7) fun y11 =>
 some y11) (
 ifB (pEq a0.1 10) (
 bindO (zB5 N a0.2.1 18 26) fun y12 =>
 some y12) (
 ifB (pEq a0.1 11) (
 bindO (zB5 N a0.2.1 0 a1) fun y13 =>
 some y13) (
 ifB (pEq a0.1 12) (
 bindO (zB5 N a0.2.1 0 a1) fun y14 =>
 some y14) (
 ifB (pEq a0.1 18) (
 bindO (zB5 N a0.2.1 1 10) fun y15 =>
 some y15) (
 bindO (zB5 N a0.1 1 18) fun y16 =>
 bindO (
 ifB y16 (
 some (pEq a0.2.1 0)) (
 some false)) fun y17 =>
 some y17)))))))
def zCQ (N:Nat) (a0:Int×Int×Unit) (a1:Int):Option (Bool) :=
 bindO (zD4 N a0 a1) fun y1 =>
 some (pNot y1)
def zA0.l2 {R:Type} (N:Nat) (d:(List (Int×Int×Unit))×Int×Int×Int×Unit) (kn:(List (Int×Int×Unit))×Int×Int×Int×Unit→Option R) (kx:(Unit) ⊕ (Int×Unit)→Option R):Option R :=
 let x15:=d.1;
 let x16:=d.2.1;
 let x17:=d.2.2.1;
 let x18:=d.2.2.2.1;
 ifB (pLt x18 x17) (
 bindO (idx x15 x18) fun y19 =>
 bindO (zCQ N y19 x16) fun y20 =>
 ifB y20 (
 kx (.inr (x18,()))) (
 kn (x15,x16,x17,(pAdd .i64 x18 1),()))) (
 kx (.inl (())))
def zA0 (N:Nat) (a0:List (Int×Int×Unit)) (a1:Int):Option (Int) :=
 loopP (zA0.l2 N) N (a0,a1,(pLen a0),0,()) (
 onSum (fun d =>
 some (-1)) (
 fun d =>
 let x21:=d.1;
 some x21))
def zAG (N:Nat) (a0:List (Int×Int×Unit)) (a1:Int):Option (Bool) :=
 bindO (zA0 N a0 a1) fun y1 =>
 some (pGe y1 0)
def zCP (N:Nat) (a0:Int) (a1:Int):Option (Int×Int) :=
 ifB (pLt 32 0) (
 none) (
 some ((pConv .u32 (pShr .u64 (pMul .u64 (pConv .u64 a0) (pConv .u64 a1)) 32)),(pConv .u32 (pMul .u64 (pConv .u64 a0) (pConv .u64 a1)))))
def zCK (N:Nat) (a0:Int) (a1:Int):Option (Int×Int) :=
 ifB (pLt 32 0) (
 none) (
 ifB (pLt 32 0) (
 none) (
 ifB (pLt 32 0) (
 none) (
 ifB (pLt 32 0) (
 none) (
 ifB (pLt 32 0) (
 none) (
 some ((pAdd .u64 (pAdd .u64 (pMul .u64 (pShr .u64 a0 32) (pShr .u64 a1 32)) (pShr .u64 (pAdd .u64 (pMul .u64 (pShr .u64 a0 32) (pAnd .u64 a1 4294967295)) (pShr .u64 (pMul .u64 (pAnd .u64 a0 4294967295) (pAnd .u64 a1 4294967295)) 32)) 32)) (pShr .u64 (pAdd .u64 (pAnd .u64 (pAdd .u64 (pMul .u64 (pShr .u64 a0 32) (pAnd .u64 a1 4294967295)) (pShr .u64 (pMul .u64 (pAnd .u64 a0 4294967295) (pAnd .u64 a1 4294967295)) 32)) 4294967295) (pMul .u64 (pAnd .u64 a0 4294967295) (pShr .u64 a1 32))) 32)),(pMul .u64 a0 a1)))))))
def zCZ (N:Nat) (a0:Int) (a1:Int):Option (Int×Int) :=
 bindO (zCK N a0 a1) fun y1 =>
 some (y1.1,y1.2)
end Go.AE.F
end
