/- Functions as they are printed out of the program: plain Lean, nothing is claimed here. -/
import Derived.Test.YtkknmokglbhheaaGreatLMachineF9
noncomputable section
namespace Go.AE.F
open Go.AE
def zAJ.st (N:Nat) (rc:(List (Int)×Int×Int×Int×Unit)→(Int)→Option ((List (Int×Int×ByteArray×Int×Unit))×List (Int)×Int×Int×Int×Unit)) (a0:List (Int)×Int×Int×Int×Unit) (a1:Int):Option ((List (Int×Int×ByteArray×Int×Unit))×List Int×Int×Int×Int×Unit) :=
 ifB (pLe a1 0) (
 bindO (zA9 N a0 5) fun y21 =>
 ifB (pEq y21.1 0) (
 bindO (zBI N y21.2 [(ByteArray.mk #[120]),(ByteArray.mk #[121]),(ByteArray.mk #[110,45,97])]) fun y22 =>
 some ([(12,(0,(y22.1,(0,()))))],y22.2)) (
 ifB (pEq y21.1 1) (
 bindO (zA9 N y21.2 3) fun y23 =>
 some ([((pAdd .i64 13 y23.1),(0,((ByteArray.mk #[]),(0,()))))],y23.2)) (
 ifB (pEq y21.1 2) (
 bindO (zA9 N y21.2 5) fun y24 =>
 bindO (idx ([97,98,10,999999999,55296]:List Int) y24.1) fun y25 =>
 bindO (idx ([97,98,10,999999999,55296]:List Int) y24.1) fun y26 =>
 some ([(11,(y26,((ByteArray.mk #[]),(0,()))))],y24.2)) (
 bindO (zA9 N y21.2 6) fun y27 =>
 some ([(11,(y27.1,((ByteArray.mk #[]),(0,()))))],y27.2))))) (
 bindO (zAI N a0 3) fun y28 =>
 ifB y28.1 (
 bindO (zA9 N y28.2 5) fun y29 =>
 ifB (pEq y29.1 0) (
 bindO (zBI N y29.2 [(ByteArray.mk #[120]),(ByteArray.mk #[121]),(ByteArray.mk #[110,45,97])]) fun y30 =>
 some ([(12,(0,(y30.1,(0,()))))],y30.2)) (
 ifB (pEq y29.1 1) (
 bindO (zA9 N y29.2 3) fun y31 =>
 some ([((pAdd .i64 13 y31.1),(0,((ByteArray.mk #[]),(0,()))))],y31.2)) (
 ifB (pEq y29.1 2) (
 bindO (zA9 N y29.2 5) fun y32 =>
 bindO (idx ([97,98,10,999999999,55296]:List Int) y32.1) fun y33 =>
 bindO (idx ([97,98,10,999999999,55296]:List Int) y32.1) fun y34 =>
 some ([(11,(y34,((ByteArray.mk #[]),(0,()))))],y32.2)) (
 bindO (zA9 N y29.2 6) fun y35 =>
 some ([(11,(y35.1,((ByteArray.mk #[]),(0,()))))],y35.2))))) (
 bindO (zAI N y28.2 4) fun y36 =>
 ifB y36.1 (
 bindO (zA9 N y36.2 2) fun y37 =>
 bindO (rc y37.2 (pSub .i64 a1 1)) fun y38 =>
 ifB (pFit [((pAdd .i64 16 y37.1),(0,((ByteArray.mk #[]),(1,()))))] y38.1) (
 some ((pApp [((pAdd .i64 16 y37.1),(0,((ByteArray.mk #[]),(1,()))))] y38.1),y38.2)) (
 none)) (
 bindO (zA9 N y36.2 9) fun y39 =>
 bindO (rc y39.2 (pSub .i64 a1 1)) fun y40 =>
 ifB (pFit [((pAdd .i64 18 y39.1),(0,((ByteArray.mk #[]),(2,()))))] y40.1) (
 bindO (rc y40.2 (pSub .i64 a1 1)) fun y41 =>
 ifB (pFit (pApp [((pAdd .i64 18 y39.1),(0,((ByteArray.mk #[]),(2,()))))] y40.1) y41.1) (
 some ((pApp (pApp [((pAdd .i64 18 y39.1),(0,((ByteArray.mk #[]),(2,()))))] y40.1) y41.1),y41.2)) (
 none)) (
 none))))
def zAJ (N:Nat):(List (Int)×Int×Int×Int×Unit)→(Int)→Option ((List (Int×Int×ByteArray×Int×Unit))×List (Int)×Int×Int×Int×Unit):=Nat.rec (motive:=fun _=>(List (Int)×Int×Int×Int×Unit)→(Int)→Option ((List (Int×Int×ByteArray×Int×Unit))×List (Int)×Int×Int×Int×Unit)) (fun _ _=>none) (fun n rc=>zAJ.st n rc) N
def zA6.l20 {R:Type} (N:Nat) (rc:(List (Int)×Int×Int×Int×Unit)→(Int)→Option ((List (Int×Int×ByteArray×Int×Unit))×List (Int)×Int×Int×Int×Unit)) (rc1:(List (Int)×Int×Int×Int×Unit)→(Int)→Option ((List (Int×Int×ByteArray×Int×Unit))×List (Int)×Int×Int×Int×Unit)) (d:Int×Int×Int×(List Int×Int×Int×Int×Unit)×(List (Int×Int×ByteArray×Int×Unit))×Unit) (kn:Int×Int×Int×(List Int×Int×Int×Int×Unit)×(List (Int×Int×ByteArray×Int×Unit))×Unit→Option R) (kx:(List Int×Int×Int×Int×Unit)×(List (Int×Int×ByteArray×Int×Unit))×Unit→Option R):Option R :=
 let x61:=d.1;
 let x62:=d.2.1;
 let x63:=d.2.2.1;
 let x64:=d.2.2.2.1;
 let x65:=d.2.2.2.2.1;
 ifB (pLt x63 x62) (
 bindO (rc1 x64 (pSub .i64 x61 1)) fun y66 =>
 ifB (pFit x65 y66.1) (
 kn (x61,x62,(pAdd .i64 x63 1),y66.2,(pApp x65 y66.1),())) (
 none)) (
 kx (x64,x65,()))
def zA6.st (N:Nat) (rc:(List (Int)×Int×Int×Int×Unit)→(Int)→Option ((List (Int×Int×ByteArray×Int×Unit))×List (Int)×Int×Int×Int×Unit)) (rc1:(List (Int)×Int×Int×Int×Unit)→(Int)→Option ((List (Int×Int×ByteArray×Int×Unit))×List (Int)×Int×Int×Int×Unit)) (a0:List (Int)×Int×Int×Int×Unit) (a1:Int):Option ((List (Int×Int×ByteArray×Int×Unit))×List Int×Int×Int×Int×Unit) :=
 bindO (zA9 N a0 10) fun y47 =>
 ifB (pEq y47.1 0) (
 bindO (zBI N y47.2 [(ByteArray.mk #[120]),(ByteArray.mk #[121])]) fun y48 =>
 bindO (zAJ N y48.2 2) fun y49 =>
 ifB (pFit [(2,(0,(y48.1,(1,()))))] y49.1) (
 some ((pApp [(2,(0,(y48.1,(1,()))))] y49.1),y49.2)) (
 none)) (
 ifB (pEq y47.1 1) (
 bindO (zBI N y47.2 [(ByteArray.mk #[120]),(ByteArray.mk #[121])]) fun y50 =>
 bindO (zAJ N y50.2 2) fun y51 =>
 ifB (pFit [(2,(0,(y50.1,(1,()))))] y51.1) (
 some ((pApp [(2,(0,(y50.1,(1,()))))] y51.1),y51.2)) (
 none)) (
 ifB (pEq y47.1 2) (
 bindO (zBO N y47.2) fun y52 =>
 ifB (pFit [(5,(0,((ByteArray.mk #[]),(1,()))))] [(11,(y52.1,((ByteArray.mk #[]),(0,()))))]) (
 some ((pApp [(5,(0,((ByteArray.mk #[]),(1,()))))] [(11,(y52.1,((ByteArray.mk #[]),(0,()))))]),y52.2)) (
 none)) (
 ifB (pEq y47.1 3) (
 bindO (zA9 N y47.2 2) fun y53 =>
 bindO (zAJ N y53.2 1) fun y54 =>
 ifB (pFit [((pAdd .i64 7 y53.1),(0,((ByteArray.mk #[]),(1,()))))] y54.1) (
 some ((pApp [((pAdd .i64 7 y53.1),(0,((ByteArray.mk #[]),(1,()))))] y54.1),y54.2)) (
 none)) (
 ifB (pEq y47.1 4) (
 some ([(9,(0,((ByteArray.mk #[]),(0,()))))],y47.2)) (
 ifB (pEq y47.1 5) (
 bindO (zAJ N y47.2 0) fun y55 =>
 ifB (pFit [(6,(0,((ByteArray.mk #[]),(2,()))))] y55.1) (
 bindO (zAJ N y55.2 0) fun y56 =>
 ifB (pFit (pApp [(6,(0,((ByteArray.mk #[]),(2,()))))] y55.1) y56.1) (
 some ((pApp (pApp [(6,(0,((ByteArray.mk #[]),(2,()))))] y55.1) y56.1),y56.2)) (
 none)) (
 none)) (
 ifB (pEq y47.1 6) (
 ifB (pGt a1 0) (
 bindO (zA9 N y47.2 2) fun y57 =>
 bindO (idx [(3,(0,((ByteArray.mk #[]),((pAdd .i64 2 y57.1),()))))] 0) fun y58 =>
 bindO (idx [(3,(0,((ByteArray.mk #[]),((pAdd .i64 2 y57.1),()))))] 0) fun y59 =>
 bindO (zAJ N y57.2 2) fun y60 =>
 ifB (pFit [(3,(0,((ByteArray.mk #[]),((pAdd .i64 2 y57.1),()))))] y60.1) (
 loopP (zA6.l20 N rc rc1) N (a1,y59.2.2.2.1,1,y60.2,(pApp [(3,(0,((ByteArray.mk #[]),((pAdd .i64 2 y57.1),()))))] y60.1),()) (
 fun d =>
 let x67:=d.1;
 let x68:=d.2.1;
 some (x68,x67))) (
 none)) (
 bindO (zBM N) fun y69 =>
 bindO (zA9 N y47.2 10) fun y70 =>
 bindO (idx y69 (pAdd .i64 1 y70.1)) fun y71 =>
 bindO (idx y69 (pAdd .i64 1 y70.1)) fun y72 =>
 some ([(10,(0,(y72,(0,()))))],y70.2))) (
 ifB (pEq y47.1 7) (
 ifB (pGt a1 0) (
 bindO (zA9 N y47.2 5) fun y73 =>
 bindO (rc1 y73.2 (pSub .i64 a1 1)) fun y74 =>
 bindO (idx y74.1 0) fun y75 =>
 bindO (idx y74.1 0) fun y76 =>
 bindO (idx y74.1 0) fun y77 =>
 bindO (idx y74.1 0) fun y78 =>
 ifB (pFit (pSet y74.1 0 (y78.1,(y78.2.1,(y78.2.2.1,((pAdd .i64 y76.2.2.2.1 1),y78.2.2.2.2))))) [(2,(0,((ByteArray.mk #[120]),(1,())))),(23,(0,((ByteArray.mk #[]),(2,())))),(12,(0,((ByteArray.mk #[120]),(0,())))),(11,(1,((ByteArray.mk #[]),(0,()))))]) (
 ifB (pFit [(4,(0,((ByteArray.mk #[]),(2,())))),(20,(0,((ByteArray.mk #[]),(2,())))),(12,(0,((ByteArray.mk #[120]),(0,())))),(11,(y73.1,((ByteArray.mk #[]),(0,()))))] (pApp (pSet y74.1 0 (y78.1,(y78.2.1,(y78.2.2.1,((pAdd .i64 y76.2.2.2.1 1),y78.2.2.2.2))))) [(2,(0,((ByteArray.mk #[120]),(1,())))),(23,(0,((ByteArray.mk #[]),(2,())))),(12,(0,((ByteArray.mk #[120]),(0,())))),(11,(1,((ByteArray.mk #[]),(0,()))))])) (
 some ((pApp [(4,(0,((ByteArray.mk #[]),(2,())))),(20,(0,((ByteArray.mk #[]),(2,())))),(12,(0,((ByteArray.mk #[120]),(0,())))),(11,(y73.1,((ByteArray.mk #[]),(0,()))))] (pApp (pSet y74.1 0 (y78.1,(y78.2.1,(y78.2.2.1,((pAdd .i64 y76.2.2.2.1 1),y78.2.2.2.2))))) [(2,(0,((ByteArray.mk #[120]),(1,())))),(23,(0,((ByteArray.mk #[]),(2,())))),(12,(0,((ByteArray.mk #[120]),(0,())))),(11,(1,((ByteArray.mk #[]),(0,()))))])),y74.2)) (
 none)) (
 none)) (
 bindO (zBM N) fun y79 =>
 bindO (zA9 N y47.2 10) fun y80 =>
 bindO (idx y79 (pAdd .i64 1 y80.1)) fun y81 =>
 bindO (idx y79 (pAdd .i64 1 y80.1)) fun y82 =>
 some ([(10,(0,(y82,(0,()))))],y80.2))) (
 bindO (zBM N) fun y83 =>
 bindO (zA9 N y47.2 10) fun y84 =>
 bindO (idx y83 (pAdd .i64 1 y84.1)) fun y85 =>
 bindO (idx y83 (pAdd .i64 1 y84.1)) fun y86 =>
 some ([(10,(0,(y86,(0,()))))],y84.2)))))))))
def zA8.l4 {R:Type} (N:Nat) (rc:(List (Int)×Int×Int×Int×Unit)→(Int)→Option ((List (Int×Int×ByteArray×Int×Unit))×List (Int)×Int×Int×Int×Unit)) (rc1:(List (Int)×Int×Int×Int×Unit)→(Int)→Option ((List (Int×Int×ByteArray×Int×Unit))×List (Int)×Int×Int×Int×Unit)) (d:Int×Int×Int×(List Int×Int×Int×Int×Unit)×(List (Int×Int×ByteArray×Int×Unit))×Unit) (kn:Int×Int×Int×(List Int×Int×Int×Int×Unit)×(List (Int×Int×ByteArray×Int×Unit))×Unit→Option R) (kx:Int×(List Int×Int×Int×Int×Unit)×(List (Int×Int×ByteArray×Int×Unit))×Unit→Option R):Option R :=
 let x20:=d.1;
 let x21:=d.2.1;
 let x22:=d.2.2.1;
 let x23:=d.2.2.2.1;
 let x24:=d.2.2.2.2.1;
 ifB (pLt x22 x21) (
 bindO (rc x23 x20) fun y25 =>
 ifB (pFit x24 y25.1) (
 kn (x20,x21,(pAdd .i64 x22 1),y25.2,(pApp x24 y25.1),())) (
 none)) (
 kx (x21,x23,x24,()))
def zA8.st (N:Nat) (rc:(List (Int)×Int×Int×Int×Unit)→(Int)→Option ((List (Int×Int×ByteArray×Int×Unit))×List (Int)×Int×Int×Int×Unit)) (rc1:(List (Int)×Int×Int×Int×Unit)→(Int)→Option ((List (Int×Int×ByteArray×Int×Unit))×List (Int)×Int×Int×Int×Unit)) (a0:List (Int)×Int×Int×Int×Unit) (a1:Int):Option ((List (Int×Int×ByteArray×Int×Unit))×List Int×Int×Int×Int×Unit) :=
 bindO (zA9 N a0 4) fun y19 =>
 loopP (zA8.l4 N rc rc1) N (a1,y19.1,0,y19.2,[(1,(0,((ByteArray.mk #[]),(0,()))))],()) (
 fun d =>
 let x26:=d.1;
 let x27:=d.2.1;
 let x28:=d.2.2.1;
 bindO (idx x28 0) fun y29 =>
 bindO (idx x28 0) fun y30 =>
 some ((pSet x28 0 (y30.1,(y30.2.1,(y30.2.2.1,(x26,y30.2.2.2.2))))),x27))
def zA6.P (N:Nat):((List (Int)×Int×Int×Int×Unit)→(Int)→Option ((List (Int×Int×ByteArray×Int×Unit))×List (Int)×Int×Int×Int×Unit))×((List (Int)×Int×Int×Int×Unit)→(Int)→Option ((List (Int×Int×ByteArray×Int×Unit))×List (Int)×Int×Int×Int×Unit)):=Nat.rec (motive:=fun _=>((List (Int)×Int×Int×Int×Unit)→(Int)→Option ((List (Int×Int×ByteArray×Int×Unit))×List (Int)×Int×Int×Int×Unit))×((List (Int)×Int×Int×Int×Unit)→(Int)→Option ((List (Int×Int×ByteArray×Int×Unit))×List (Int)×Int×Int×Int×Unit))) (fun _ _=>none,fun _ _=>none) (fun n rc=>(zA6.st n rc.1 rc.2,zA8.st n rc.1 rc.2)) N
def zA6 (N:Nat):(List (Int)×Int×Int×Int×Unit)→(Int)→Option ((List (Int×Int×ByteArray×Int×Unit))×List (Int)×Int×Int×Int×Unit):=(zA6.P N).1
def zA8 (N:Nat):(List (Int)×Int×Int×Int×Unit)→(Int)→Option ((List (Int×Int×ByteArray×Int×Unit))×List (Int)×Int×Int×Int×Unit):=(zA6.P N).2
def zC8 (N:Nat) (a0:List (Int)×Int×Int×Int×Unit):Option (Int×List Int×Int×Int×Int×Unit) :=
 bindO (zA9 N a0 14) fun y3 =>
 bindO (idx ([0,1,(-1),2,1000,1001,2147483648,2147483647,(-2147483648),4611686018427387904,9223372036854775807,(-9223372036854775808),1000000,1000001]:List Int) y3.1) fun y4 =>
 bindO (idx ([0,1,(-1),2,1000,1001,2147483648,2147483647,(-2147483648),4611686018427387904,9223372036854775807,(-9223372036854775808),1000000,1000001]:List Int) y3.1) fun y5 =>
 some (y5,y3.2)
def zA3.l17 {R:Type} (N:Nat) (d:Int×(List Int×Int×Int×Int×Unit)×(List (Int×Int×ByteArray×Int×Unit))×Unit) (kn:Int×(List Int×Int×Int×Int×Unit)×(List (Int×Int×ByteArray×Int×Unit))×Unit→Option R) (kx:(List Int×Int×Int×Int×Unit)×(List (Int×Int×ByteArray×Int×Unit))×Unit→Option R):Option R :=
 let x113:=d.1;
 let x114:=d.2.1;
 let x115:=d.2.2.1;
 bindO (idx x115 0) fun y116 =>
 bindO (idx x115 0) fun y117 =>
 ifB (pLt x113 y117.2.2.2.1) (
 ifB (pFit x115 [(9,(0,((ByteArray.mk #[]),(0,()))))]) (
 kn ((pAdd .i64 x113 1),x114,(pApp x115 [(9,(0,((ByteArray.mk #[]),(0,()))))]),())) (
 none)) (
 kx (x114,x115,()))
def zA3.l23 {R:Type} (N:Nat) (d:Int×(List Int×Int×Int×Int×Unit)×(List (Int×Int×ByteArray×Int×Unit))×Unit) (kn:Int×(List Int×Int×Int×Int×Unit)×(List (Int×Int×ByteArray×Int×Unit))×Unit→Option R) (kx:(List Int×Int×Int×Int×Unit)×(List (Int×Int×ByteArray×Int×Unit))×Unit→Option R):Option R :=
 let x122:=d.1;
 let x123:=d.2.1;
 let x124:=d.2.2.1;
 ifB (pGt x122 0) (
 ifB (pFit x124 [(17,(0,((ByteArray.mk #[]),(1,()))))]) (
 kn ((pSub .i64 x122 1),x123,(pApp x124 [(17,(0,((ByteArray.mk #[]),(1,()))))]),())) (
 none)) (
 kx (x123,x124,()))
end Go.AE.F
end
