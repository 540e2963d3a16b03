/- Functions as they are printed out of the program: plain Lean, nothing is claimed here. -/
import Derived.Test.YtdhcgpbgefhgfaaXEdNamesF2
noncomputable section
namespace Go.AE.F
open Go.AE
def slices_partitionOrdered_Sstring.l1000013 {R : Type} (N : Nat) (d : Int × Int × Int × List ByteArray × Unit) (kn : Int × Int × Int × List ByteArray × Unit → Option R) (kx : Int × Int × List ByteArray × Unit → Option R) : Option R :=
 let x224 := d.1;
 let x225 := d.2.1;
 let x226 := d.2.2.1;
 let x227 := d.2.2.2.1;
 loopP (slices_partitionOrdered_Sstring.l13 N) N (x224, x225, x226, x227, ()) (
 fun d =>
 let x237 := d.1;
 let x238 := d.2.1;
 let x239 := d.2.2.1;
 let x240 := d.2.2.2.1;
 loopP (slices_partitionOrdered_Sstring.l15 N) N (x237, x238, x239, x240, ()) (
 fun d =>
 let x250 := d.1;
 let x251 := d.2.1;
 let x252 := d.2.2.1;
 let x253 := d.2.2.2.1;
 ifB (pGt x251 x252) (
 kx (x250, x252, x253, ())) (
 bindO (idx x253 x252) fun y254 =>
 bindO (idx x253 x252) fun y255 =>
 bindO (idx x253 x251) fun y256 =>
 bindO (idx x253 x251) fun y257 =>
 bindO (idx x253 x251) fun y258 =>
 bindO (idx x253 x251) fun y259 =>
 bindO (idx (pSet x253 x251 y255) x252) fun y260 =>
 bindO (idx (pSet x253 x251 y255) x252) fun y261 =>
 kn (x250, (pAdd .i64 x251 1), (pSub .i64 x252 1), (pSet (pSet x253 x251 y255) x252 y257), ()))))
def slices_partitionOrdered_Sstring (N : Nat) (a0 : List (ByteArray)) (a1 : Int) (a2 : Int) (a3 : Int) : Option (Int × Bool × List ByteArray) :=
 bindO (idx a0 a3) fun y174 =>
 bindO (idx a0 a3) fun y175 =>
 bindO (idx a0 a1) fun y176 =>
 bindO (idx a0 a1) fun y177 =>
 bindO (idx a0 a1) fun y178 =>
 bindO (idx a0 a1) fun y179 =>
 bindO (idx (pSet a0 a1 y175) a3) fun y180 =>
 bindO (idx (pSet a0 a1 y175) a3) fun y181 =>
 loopP (slices_partitionOrdered_Sstring.l3 N) N (a1, (pAdd .i64 a1 1), (pSub .i64 a2 1), (pSet (pSet a0 a1 y175) a3 y177), ()) (
 fun d =>
 let x191 := d.1;
 let x192 := d.2.1;
 let x193 := d.2.2.1;
 let x194 := d.2.2.2.1;
 loopP (slices_partitionOrdered_Sstring.l5 N) N (x191, x192, x193, x194, ()) (
 fun d =>
 let x204 := d.1;
 let x205 := d.2.1;
 let x206 := d.2.2.1;
 let x207 := d.2.2.2.1;
 ifB (pGt x205 x206) (
 bindO (idx x207 x204) fun y208 =>
 bindO (idx x207 x204) fun y209 =>
 bindO (idx x207 x206) fun y210 =>
 bindO (idx x207 x206) fun y211 =>
 bindO (idx x207 x206) fun y212 =>
 bindO (idx x207 x206) fun y213 =>
 bindO (idx (pSet x207 x206 y209) x204) fun y214 =>
 bindO (idx (pSet x207 x206 y209) x204) fun y215 =>
 some (x206, true, (pSet (pSet x207 x206 y209) x204 y211))) (
 bindO (idx x207 x206) fun y216 =>
 bindO (idx x207 x206) fun y217 =>
 bindO (idx x207 x205) fun y218 =>
 bindO (idx x207 x205) fun y219 =>
 bindO (idx x207 x205) fun y220 =>
 bindO (idx x207 x205) fun y221 =>
 bindO (idx (pSet x207 x205 y217) x206) fun y222 =>
 bindO (idx (pSet x207 x205 y217) x206) fun y223 =>
 loopP (slices_partitionOrdered_Sstring.l1000013 N) N (x204, (pAdd .i64 x205 1), (pSub .i64 x206 1), (pSet (pSet x207 x205 y217) x206 y219), ()) (
 fun d =>
 let x262 := d.1;
 let x263 := d.2.1;
 let x264 := d.2.2.1;
 bindO (idx x264 x262) fun y265 =>
 bindO (idx x264 x262) fun y266 =>
 bindO (idx x264 x263) fun y267 =>
 bindO (idx x264 x263) fun y268 =>
 bindO (idx x264 x263) fun y269 =>
 bindO (idx x264 x263) fun y270 =>
 bindO (idx (pSet x264 x263 y266) x262) fun y271 =>
 bindO (idx (pSet x264 x263 y266) x262) fun y272 =>
 some (x263, false, (pSet (pSet x264 x263 y266) x262 y268))))))
end Go.AE.F
end
