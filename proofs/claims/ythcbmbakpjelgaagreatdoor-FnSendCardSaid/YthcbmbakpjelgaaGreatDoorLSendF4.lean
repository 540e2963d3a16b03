/- Functions as they are printed out of the program: plain Lean, nothing is claimed here. -/
import Derived.Test.YthcbmbakpjelgaaGreatDoorLSendF3
noncomputable section
namespace Go.AE.F
open Go.AE
def zAK.l11 {R:Type} (N:Nat) (d:Bool×Int×Int×Int×(List Int×Int×Int×Unit)×(Int×(List (List (List Int×Int×Unit)))×Int×Unit)×(List (Int×Int×Unit))×Unit) (kn:Bool×Int×Int×Int×(List Int×Int×Int×Unit)×(Int×(List (List (List Int×Int×Unit)))×Int×Unit)×(List (Int×Int×Unit))×Unit->Option R) (kx:(Int×(List (List (List Int×Int×Unit)))×Int×Unit)×(List (Int×Int×Unit))×Unit->Option R):Option R :=
 let x83:=d.1;
 let x84:=d.2.1;
 let x85:=d.2.2.1;
 let x86:=d.2.2.2.1;
 let x87:=d.2.2.2.2.1;
 let x88:=d.2.2.2.2.2.1;
 let x89:=d.2.2.2.2.2.2.1;
 ifB (pLt x86 (pLen x87.1)) (
 bindO (A:=Bool×Int×Int×Int×(List Int×Int×Int×Unit)×(Int×(List (List (List Int×Int×Unit)))×Int×Unit)×(List (Int×Int×Unit))×Unit) (
 bindO (
 ifB x83 (
 some (pGe x86 x84)) (
 some false)) fun y90 =>
 bindO (
 ifB y90 (
 some (pLt x86 x85)) (
 some false)) fun y91 =>
 ifB y91 (
 bindO (idx x87.1 x86) fun y92 =>
 bindO (zAB N x88 y92 1) fun y93 =>
 bindO (zBM N y93) fun y94 =>
 ifB (pFit x89 [y94]) (
 some (x83,x84,x85,x86,x87,y93,(pApp x89 [y94]),())) (
 none)) (
 bindO (idx x87.1 x86) fun y95 =>
 bindO (zAB N x88 y95 0) fun y96 =>
 bindO (zBM N y96) fun y97 =>
 ifB (pFit x89 [y97]) (
 some (x83,x84,x85,x86,x87,y96,(pApp x89 [y97]),())) (
 none))) (
 fun d =>
 let x98:=d.1;
 let x99:=d.2.1;
 let x100:=d.2.2.1;
 let x101:=d.2.2.2.1;
 let x102:=d.2.2.2.2.1;
 let x103:=d.2.2.2.2.2.1;
 let x104:=d.2.2.2.2.2.2.1;
 kn (x98,x99,x100,(pAdd .i64 x101 1),x102,x103,x104,()))) (
 kx (x88,x89,()))
def zAK (N:Nat) (a0:List (Int)) (a1:List (Int)×Int×Int×Unit) (a2:Bool) (a3:Int):Option ((Int×(List (List (List Int×Int×Unit)))×Int×Unit)×List (Int×Int×Unit)) :=
 bindO (zBG N (a3,([],(0,())))) fun y69 =>
 loopP (zAK.l4 N) N (a0,a2,0,a1,y69,()) (
 fun d =>
 let x77:=d.1;
 let x78:=d.2.1;
 let x79:=d.2.2.1;
 bindO (zBM N x79) fun y80 =>
 bindO (zCD N x78.2.1 x78.2.2.1) fun y81 =>
 bindO (zBV N x78.2.1 x78.2.2.1) fun y82 =>
 loopP (zAK.l11 N) N (x77,y81,y82,0,x78,x79,[y80],()) (
 fun d =>
 let x105:=d.1;
 let x106:=d.2.1;
 some (x105,x106)))
def zB5.l4 {R:Type} (N:Nat) (d:Int×(List Int×Int×Unit)×Unit) (kn:Int×(List Int×Int×Unit)×Unit->Option R) (kx:(Unit) ⊕ (Bool×Unit)->Option R):Option R :=
 let x27:=d.1;
 let x28:=d.2.1;
 ifB (pLt x27 (pLen x28.1)) (
 bindO (idx x28.1 x27) fun y29 =>
 bindO (zBQ N y29) fun y30 =>
 bindO (
 ifB (pNot y30) (
 some true) (
 bindO (zC3 N y29) fun y32 =>
 some (pBeq (pEq x27 0) (pEq y32 0)))) fun y31 =>
 bindO (
 ifB y31 (
 some true) (
 some (pLt y29 32))) fun y33 =>
 bindO (
 ifB y33 (
 some true) (
 some (pEq y29 127))) fun y34 =>
 ifB y34 (
 kx (.inr (false,()))) (
 kn ((pAdd .i64 x27 1),x28,()))) (
 kx (.inl (())))
def zB5 (N:Nat) (a0:List (Int)×Int×Unit):Option (Bool) :=
 bindO (
 ifB (pGt (pLen a0.1) 4) (
 some true) (
 some (pLt a0.2.1 0))) fun y25 =>
 bindO (
 ifB y25 (
 some true) (
 some (pGt a0.2.1 3))) fun y26 =>
 ifB y26 (
 some false) (
 loopP (zB5.l4 N) N (0,a0,()) (
 onSum (fun d =>
 some true) (
 fun d =>
 let x35:=d.1;
 some x35)))
def zAM.l4 {R:Type} (N:Nat) (d:Int×(Int×Int×(List (List Int×Int×Unit))×Int×Int×Bool×Int×Unit)×Unit) (kn:Int×(Int×Int×(List (List Int×Int×Unit))×Int×Int×Bool×Int×Unit)×Unit->Option R) (kx:(Unit) ⊕ (Bool×Unit)->Option R):Option R :=
 let x41:=d.1;
 let x42:=d.2.1;
 ifB (pLt x41 (pLen x42.2.2.1)) (
 bindO (A:=(Int×(Int×Int×(List (List Int×Int×Unit))×Int×Int×Bool×Int×Unit)×Unit) ⊕ (Bool×Unit)) (
 bindO (idx x42.2.2.1 x41) fun y43 =>
 bindO (zB5 N y43) fun y44 =>
 ifB (pNot y44) (
 some (.inr (false,()))) (
 bindO (zC2 N y43) fun y45 =>
 ifB y45 (
 ifB (pEq x42.2.1 0) (
 none) (
 ifB (pEq (pRem x41 x42.2.1) (pSub .i64 x42.2.1 1)) (
 some (.inr (false,()))) (
 bindO (idx x42.2.2.1 (pAdd .i64 x41 1)) fun y46 =>
 ifB (pGt (pLen y46.1) 0) (
 some (.inr (false,()))) (
 bindO (idx x42.2.2.1 (pAdd .i64 x41 1)) fun y47 =>
 ifB (pNe y47.2.1 y43.2.1) (
 some (.inr (false,()))) (
 some (.inl (x41,x42,()))))))) (
 some (.inl (x41,x42,()))))) (
 onSum (fun d =>
 let x48:=d.1;
 let x49:=d.2.1;
 kn ((pAdd .i64 x48 1),x49,())) (
 fun d =>
 let x50:=d.1;
 kx (.inr (x50,()))))) (
 kx (.inl (())))
def zAM (N:Nat) (a0:Int×Int×(List (List (Int)×Int×Unit))×Int×Int×Bool×Int×Unit):Option (Bool) :=
 bindO (zC7 N a0.1 a0.2.1) fun y31 =>
 bindO (
 ifB (pNot y31) (
 some true) (
 some (pNe (pLen a0.2.2.1) (pMul .i64 a0.1 a0.2.1)))) fun y32 =>
 bindO (
 ifB y32 (
 some true) (
 some (pLt a0.2.2.2.1 0))) fun y33 =>
 bindO (
 ifB y33 (
 some true) (
 some (pGe a0.2.2.2.1 a0.1))) fun y34 =>
 bindO (
 ifB y34 (
 some true) (
 some (pLt a0.2.2.2.2.1 0))) fun y35 =>
 bindO (
 ifB y35 (
 some true) (
 some (pGe a0.2.2.2.2.1 a0.2.1))) fun y36 =>
 bindO (
 ifB y36 (
 some true) (
 bindO (
 ifB a0.2.2.2.2.2.1 (
 some (pNe a0.2.2.2.2.1 (pSub .i64 a0.2.1 1))) (
 some false)) fun y38 =>
 some y38)) fun y37 =>
 bindO (
 ifB y37 (
 some true) (
 some (pLt a0.2.2.2.2.2.2.1 0))) fun y39 =>
 bindO (
 ifB y39 (
 some true) (
 some (pGt a0.2.2.2.2.2.2.1 3))) fun y40 =>
 ifB y40 (
 some false) (
 loopP (zAM.l4 N) N (0,a0,()) (
 onSum (fun d =>
 some true) (
 fun d =>
 let x51:=d.1;
 some x51)))
def zCA (N:Nat) (a0:Int×Int×(List (List (Int)×Int×Unit))×Int×Int×Bool×Int×Unit) (a1:Int):Option (Bool) :=
 ifB (pEq a0.2.1 0) (
 none) (
 bindO (
 ifB (pGt (pRem a1 a0.2.1) 0) (
 bindO (idx a0.2.2.1 (pSub .i64 a1 1)) fun y4 =>
 bindO (zC2 N y4) fun y5 =>
 some y5) (
 some false)) fun y3 =>
 some y3)
def zA4.l8 {R:Type} (N:Nat) (d:Int×Bool×Int×(Int×Int×(List (List Int×Int×Unit))×Int×Int×Bool×Int×Unit)×Unit) (kn:Int×Bool×Int×(Int×Int×(List (List Int×Int×Unit))×Int×Int×Bool×Int×Unit)×Unit->Option R) (kx:(Int×(Int×Int×(List (List Int×Int×Unit))×Int×Int×Bool×Int×Unit)×Unit) ⊕ (Bool×Unit)->Option R):Option R :=
 let x46:=d.1;
 let x47:=d.2.1;
 let x48:=d.2.2.1;
 let x49:=d.2.2.2.1;
 ifB (pLt x48 x49.2.1) (
 bindO (A:=(Int×Bool×Int×(Int×Int×(List (List Int×Int×Unit))×Int×Int×Bool×Int×Unit)×Unit) ⊕ (Bool×Unit)) (
 bindO (zCA N x49 (pAdd .i64 (pMul .i64 x46 x49.2.1) x48)) fun y50 =>
 ifB y50 (
 some (.inl (x46,x47,x48,x49,()))) (
 bindO (idx x49.2.2.1 (pAdd .i64 (pMul .i64 x46 x49.2.1) x48)) fun y51 =>
 ifB (pEq (pLen y51.1) 0) (
 bindO (idx x49.2.2.1 (pAdd .i64 (pMul .i64 x46 x49.2.1) x48)) fun y52 =>
 ifB (pNe y52.2.1 0) (
 some (.inr (false,()))) (
 some (.inl (x46,true,x48,x49,())))) (
 ifB x47 (
 some (.inr (false,()))) (
 some (.inl (x46,x47,x48,x49,())))))) (
 onSum (fun d =>
 let x53:=d.1;
 let x54:=d.2.1;
 let x55:=d.2.2.1;
 let x56:=d.2.2.2.1;
 kn (x53,x54,(pAdd .i64 x55 1),x56,())) (
 fun d =>
 let x57:=d.1;
 kx (.inr (x57,()))))) (
 kx (.inl (x46,x49,())))
def zA4.l4 {R:Type} (N:Nat) (d:Int×(Int×Int×(List (List Int×Int×Unit))×Int×Int×Bool×Int×Unit)×Unit) (kn:Int×(Int×Int×(List (List Int×Int×Unit))×Int×Int×Bool×Int×Unit)×Unit->Option R) (kx:(Unit) ⊕ (Bool×Unit)->Option R):Option R :=
 let x44:=d.1;
 let x45:=d.2.1;
 ifB (pLt x44 x45.1) (
 loopP (zA4.l8 N) N (x44,false,0,x45,()) (
 onSum (fun d =>
 let x58:=d.1;
 let x59:=d.2.1;
 kn ((pAdd .i64 x58 1),x59,())) (
 fun d =>
 let x60:=d.1;
 kx (.inr (x60,()))))) (
 kx (.inl (())))
def zA4 (N:Nat) (a0:Int×Int×(List (List (Int)×Int×Unit))×Int×Int×Bool×Int×Unit):Option (Bool) :=
 bindO (zAM N a0) fun y41 =>
 bindO (
 ifB (pNot y41) (
 some true) (
 some a0.2.2.2.2.2.1)) fun y42 =>
 bindO (
 ifB y42 (
 some true) (
 some (pNe a0.2.2.2.2.2.2.1 0))) fun y43 =>
 ifB y43 (
 some false) (
 loopP (zA4.l4 N) N (0,a0,()) (
 onSum (fun d =>
 some true) (
 fun d =>
 let x61:=d.1;
 some x61)))
def zAU.l3 {R:Type} (N:Nat) (d:List Int×Int×List Int×Unit) (kn:List Int×Int×List Int×Unit->Option R) (kx:List Int×Unit->Option R):Option R :=
 let x13:=d.1;
 let x14:=d.2.1;
 let x15:=d.2.2.1;
 ifB (pLt x14 (pLen x13)) (
 bindO (idx x13 x14) fun y16 =>
 bindO (zC9 N y16) fun y17 =>
 ifB (pFit x15 y17) (
 kn (x13,(pAdd .i64 x14 1),(pApp x15 y17),())) (
 none)) (
 kx (x15,()))
def zAU (N:Nat) (a0:List (Int)):Option (ByteArray) :=
 loopP (zAU.l3 N) N (a0,0,[],()) (
 fun d =>
 let x18:=d.1;
 some (bytesOf x18))
def zBD.l4 {R:Type} (N:Nat) (d:Int×Int×Int×(Int×Int×(List (List Int×Int×Unit))×Int×Int×Bool×Int×Unit)×List Int×Unit) (kn:Int×Int×Int×(Int×Int×(List (List Int×Int×Unit))×Int×Int×Bool×Int×Unit)×List Int×Unit->Option R) (kx:Int×List Int×Unit->Option R):Option R :=
 let x32:=d.1;
 let x33:=d.2.1;
 let x34:=d.2.2.1;
 let x35:=d.2.2.2.1;
 let x36:=d.2.2.2.2.1;
 ifB (pLt x34 x35.2.1) (
 bindO (A:=Int×Int×Int×(Int×Int×(List (List Int×Int×Unit))×Int×Int×Bool×Int×Unit)×List Int×Unit) (
 bindO (idx x35.2.2.1 (pAdd .i64 (pMul .i64 x32 x35.2.1) x34)) fun y37 =>
 ifB (pEq (pLen y37.1) 0) (
 some (x32,x33,x34,x35,x36,())) (
 ifB (pNe y37.2.1 x33) (
 bindO (zA5 N y37.2.1) fun y38 =>
 ifB (pFitS (ByteArray.mk #[27,91]) y38) (
 ifB (pFitS (pCat (ByteArray.mk #[27,91]) y38) (ByteArray.mk #[109])) (
 ifB (pFit x36 (strInts (pCat (pCat (ByteArray.mk #[27,91]) y38) (ByteArray.mk #[109])))) (
 bindO (zAU N y37.1) fun y39 =>
 ifB (pFit (pApp x36 (strInts (pCat (pCat (ByteArray.mk #[27,91]) y38) (ByteArray.mk #[109])))) (strInts y39)) (
 some (x32,y37.2.1,x34,x35,(pApp (pApp x36 (strInts (pCat (pCat (ByteArray.mk #[27,91]) y38) (ByteArray.mk #[109])))) (strInts y39)),())) (
 none)) (
 none)) (
 none)) (
 none)) (
 bindO (zAU N y37.1) fun y40 =>
 ifB (pFit x36 (strInts y40)) (
 some (x32,x33,x34,x35,(pApp x36 (strInts y40)),())) (
 none)))) (
 fun d =>
 let x41:=d.1;
 let x42:=d.2.1;
 let x43:=d.2.2.1;
 let x44:=d.2.2.2.1;
 let x45:=d.2.2.2.2.1;
 kn (x41,x42,(pAdd .i64 x43 1),x44,x45,()))) (
 kx (x33,x36,()))
def zBD (N:Nat) (a0:Int×Int×(List (List (Int)×Int×Unit))×Int×Int×Bool×Int×Unit) (a1:Int):Option (List Int) :=
 bindO (zA5 N (pAdd .i64 a1 1)) fun y31 =>
 ifB (pFitS (ByteArray.mk #[27,91]) y31) (
 ifB (pFitS (pCat (ByteArray.mk #[27,91]) y31) (ByteArray.mk #[59,49,72,27,91,75])) (
 loopP (zBD.l4 N) N (a1,0,0,a0,(strInts (pCat (pCat (ByteArray.mk #[27,91]) y31) (ByteArray.mk #[59,49,72,27,91,75]))),()) (
 fun d =>
 let x46:=d.1;
 let x47:=d.2.1;
 ifB (pNe x46 0) (
 ifB (pFit x47 (strInts (ByteArray.mk #[27,91,48,109]))) (
 some (pApp x47 (strInts (ByteArray.mk #[27,91,48,109])))) (
 none)) (
 some x47))) (
 none)) (
 none)
def zCM (N:Nat) (a0:Int):Option (Bool) :=
 bindO (zBA N a0 1 24) fun y1 =>
 some y1
def zBE (N:Nat) (a0:List (List (Int)×Int×Unit)):Option (Int) :=
 some (pLen a0)
def zAR.l2 {R:Type} (N:Nat) (d:List Int×Int×Int×(List Int×Int×Unit)×Unit) (kn:List Int×Int×Int×(List Int×Int×Unit)×Unit->Option R) (kx:((List Int×Int×Unit)×Unit) ⊕ (Bool×Unit)->Option R):Option R :=
 let x30:=d.1;
 let x31:=d.2.1;
 let x32:=d.2.2.1;
 let x33:=d.2.2.2.1;
 ifB (pLt x32 x31) (
 bindO (idx x30 x32) fun y34 =>
 bindO (zCE N y34) fun y35 =>
 bindO (
 ifB (pNot y35) (
 some true) (
 bindO (zBT N y34) fun y37 =>
 some y37)) fun y36 =>
 bindO (
 ifB y36 (
 some true) (
 bindO (zAW N y34) fun y39 =>
 some (pNot (pBeq (pEq x32 0) (pGt y39 0))))) fun y38 =>
 ifB y38 (
 kx (.inr (false,()))) (
 kn (x30,x31,(pAdd .i64 x32 1),x33,()))) (
 kx (.inl (x33,())))
end Go.AE.F
end
