/- The printed functions are what the program comes to: contracts. -/
import Derived.Test.YtcgbobehdjgjpaaGreatLViBackF8
import Derived.Test.YtcgbobehdjgjpaaGreatLViBackT
noncomputable section
namespace Go.AE.F
open Go.AE Go.Proofs
set_option maxRecDepth 100000
def zAR.sk3 : Skel := ⟨.pv s22 :: (dd 2 (.ptr 50 [] :: (.pv (.int .i64) :: (dd 42 [])))), [⟨50, s62, .imm, true, false⟩]⟩
def zAR.xs3 : List XS := [⟨.exit 0, [0, 3], ⟨.pv s22 :: (dd 2 (.ptr 50 [] :: (dd 43 []))), [⟨50, s62, .imm, true, false⟩]⟩⟩]
def zAR.con (N : Nat) : Con := { modes := [.v], ptrs := [true], fn := fn1 s22 .imm (zAR N) (fun r => [⟨s62, .imm, r⟩]) (fun r => []) }
def zAR.cfg (N : Nat) : Cfg := { ty := tys, keep := [], flt := [], elm := elm0, live := [(3, [0, 3, 4, 13, 14])], ord := [(5, [0, 1, 2, 3, 4, 5, 6, 7, 8, 9, 10, 11, 12, 13, 14])], con := [], loops := [(3, loopCon N zAR.sk3 zAR.xs3 (fun {R} => zAR.l3 (R := R) N))], joins := [] }
theorem zAR.cons (N : Nat) : ConsOk Tryz.prog (zAR.cfg N).con := consOk_nil
theorem zAR.h3 {R : Type} (N : Nat) (d : zAR.sk3.D) (kn : zAR.sk3.D → Option R) (kx : XD zAR.xs3 → Option R) : roundK (zAR.cfg N) N (nthLoop (fnBody Tryz.f12) 0) zAR.sk3 zAR.xs3 d kn kx = zAR.l3 N d kn kx := by kernel_rfl
theorem zAR.i3 (N : Nat) : LoopsOk Tryz.prog (zAR.cfg N) (nthLoop (fnBody Tryz.f12) 0) := loopsL (l := []) (by kernel_rfl) trivial
theorem zAR.o3 (N : Nat) : LoopOk Tryz.prog (nthLoop (fnBody Tryz.f12) 0) (loopCon N zAR.sk3 zAR.xs3 (fun {R} => zAR.l3 (R := R) N)) := loop_ok (g := zAR.cfg N) tys_ok (zAR.cons N) mixed (zAR.i3 N) (fun d kn kx => zAR.h3 N d kn kx)
theorem zAR.ls (N : Nat) : LoopsOk Tryz.prog (zAR.cfg N) (fnBody Tryz.f12) := loopsL (l := [nthLoop (fnBody Tryz.f12) 0]) (by kernel_rfl) ⟨loopOne (L0 := loopCon N zAR.sk3 zAR.xs3 (fun {R} => zAR.l3 (R := R) N)) (id := 3) (by kernel_rfl) (by kernel_rfl) (zAR.o3 N), trivial⟩
theorem zAR.q3 {R R' : Type} {N n : Nat} {d} {k} {g : R → Option R'} : bindF (loopP (zAR.l3 N) n d k) g = loopP (zAR.l3 N) n d fun e => bindF (k e) g := bindF_loopP (fun d kn kx => by simp only [zAR.l3, bindF_ifB, bindF_bindO, bindF_pure, bindF_none, bindF_onSum]) n d k
theorem zAR.b (N : Nat) (x0 : den s22) : body (zAR.cfg N) N Tryz.f12 [.one] [.v] [(true, .imm)] [⟨s22, .imm, x0⟩] (fun r i => some (r, i)) = bindO (zAR N x0) fun r => some ([⟨s62, .imm, r⟩], []) := by
  show _ = bindF _ _
  conv => rhs; simp only [zAR, bindF_ifB, bindF_bindO, bindF_pure, bindF_none, bindF_onSum, zAR.q3]
  kernel_rfl
theorem zAR.ok (N : Nat) : ConOk Tryz.prog 12 [.one] (zAR.con N) := ok1 (g := zAR.cfg N) (N := N) (res := [(true, .imm)]) tys_ok (zAR.cons N) mixed Tryz.func12 (zAR.ls N) rfl (zAR.b N)
theorem zAR.det (N : Nat) : ConDet (zAR.con N) := det1
def zAF.con (N : Nat) : Con := { modes := [.io, .v], ptrs := [false], fn := fn2 s62 .imm (.int .i64) .imm (zAF N) (fun r => [⟨(.int .i64), .imm, r.1⟩]) (fun r => [⟨s62, .imm, r.2⟩]) }
def zAF.cfg (N : Nat) : Cfg := { ty := tys, keep := [], flt := [], elm := elm0, live := [], ord := [(4, [0, 1, 2, 3, 4, 5, 6, 7, 8, 9]), (5, [0, 1, 2, 3, 4, 5, 6, 7, 8, 9, 10, 11]), (7, [0, 1, 2, 3, 4, 5, 6, 7, 8, 9, 10, 11, 12, 13]), (8, [0, 1, 2, 3, 4, 5, 6, 7, 8, 9, 10, 11, 12, 13]), (9, [0, 1, 2, 3, 4, 5, 6, 7, 8, 9, 10, 11, 12, 13])], con := [], loops := [], joins := [] }
theorem zAF.cons (N : Nat) : ConsOk Tryz.prog (zAF.cfg N).con := consOk_nil
theorem zAF.ls (N : Nat) : LoopsOk Tryz.prog (zAF.cfg N) (fnBody Tryz.f16) := loopsL (l := []) (by kernel_rfl) trivial
theorem zAF.b (N : Nat) (x0 : den s62) (x1 : den (.int .i64)) : body (zAF.cfg N) N Tryz.f16 [.one, .one] [.io, .v] [(false, .imm)] [⟨s62, .imm, x0⟩, ⟨(.int .i64), .imm, x1⟩] (fun r i => some (r, i)) = bindO (zAF N x0 x1) fun r => some ([⟨(.int .i64), .imm, r.1⟩], [⟨s62, .imm, r.2⟩]) := by
  show _ = bindF _ _
  conv => rhs; simp only [zAF, bindF_ifB, bindF_bindO, bindF_pure, bindF_none, bindF_onSum]
  kernel_rfl
theorem zAF.ok (N : Nat) : ConOk Tryz.prog 16 [.one, .one] (zAF.con N) := ok2 (g := zAF.cfg N) (N := N) (res := [(false, .imm)]) tys_ok (zAF.cons N) mixed Tryz.func16 (zAF.ls N) rfl (zAF.b N)
theorem zAF.det (N : Nat) : ConDet (zAF.con N) := det2
def zBK.con (N : Nat) : Con := { modes := [.io], ptrs := [false], fn := fn1 s62 .imm (zBK N) (fun r => [⟨(.int .i64), .imm, r.1⟩]) (fun r => [⟨s62, .imm, r.2⟩]) }
def zBK.cfg (N : Nat) : Cfg := { ty := tys, keep := [4, 13, 20, 27, 34, 40, 43], flt := [], elm := elm0, live := [], ord := [], con := [((16, [.one, .one]), zAF.con N)], loops := [], joins := [] }
theorem zBK.cons (N : Nat) : ConsOk Tryz.prog (zBK.cfg N).con := (consOk_cons (hb16) (zAF.ok N) (zAF.det N) consOk_nil)
theorem zBK.ls (N : Nat) : LoopsOk Tryz.prog (zBK.cfg N) (fnBody Tryz.f62) := loopsL (l := []) (by kernel_rfl) trivial
theorem zBK.b (N : Nat) (x0 : den s62) : body (zBK.cfg N) N Tryz.f62 [.one] [.io] [(false, .imm)] [⟨s62, .imm, x0⟩] (fun r i => some (r, i)) = bindO (zBK N x0) fun r => some ([⟨(.int .i64), .imm, r.1⟩], [⟨s62, .imm, r.2⟩]) := by
  show _ = bindF _ _
  conv => rhs; simp only [zBK, bindF_ifB, bindF_bindO, bindF_pure, bindF_none, bindF_onSum]
  kernel_rfl
theorem zBK.ok (N : Nat) : ConOk Tryz.prog 62 [.one] (zBK.con N) := ok1 (g := zBK.cfg N) (N := N) (res := [(false, .imm)]) tys_ok (zBK.cons N) mixed Tryz.func62 (zBK.ls N) rfl (zBK.b N)
theorem zBK.det (N : Nat) : ConDet (zBK.con N) := det1
def zAD.sk2 : Skel := ⟨.ptr 0 [] :: (.pv (.int .i64) :: (dd 3 (.ov 50 [] :: (dd 11 [])))), [⟨0, s62, .imm, true, false⟩, ⟨50, s23, (.own .imm), false, false⟩]⟩
def zAD.xs2 : List XS := [⟨.exit 0, [5], ⟨dd 5 (.ov 50 [] :: (dd 11 [])), [⟨0, s62, .imm, true, false⟩, ⟨50, s23, (.own .imm), false, false⟩]⟩⟩]
def zAD.con (N : Nat) : Con := { modes := [.io, .v], ptrs := [false], fn := fn2 s62 .imm (.int .i64) .imm (zAD N) (fun r => [⟨s23, (.own .imm), r.1⟩]) (fun r => [⟨s62, .imm, r.2⟩]) }
def zAD.cfg (N : Nat) : Cfg := { ty := tys, keep := [13], flt := [], elm := elm0, live := [(2, [0, 1, 5])], ord := [], con := [((62, [.one]), zBK.con N)], loops := [(2, loopCon N zAD.sk2 zAD.xs2 (fun {R} => zAD.l2 (R := R) N))], joins := [] }
theorem zAD.cons (N : Nat) : ConsOk Tryz.prog (zAD.cfg N).con := (consOk_cons (hb62) (zBK.ok N) (zBK.det N) consOk_nil)
theorem zAD.h2 {R : Type} (N : Nat) (d : zAD.sk2.D) (kn : zAD.sk2.D → Option R) (kx : XD zAD.xs2 → Option R) : roundK (zAD.cfg N) N (nthLoop (fnBody Tryz.f30) 0) zAD.sk2 zAD.xs2 d kn kx = zAD.l2 N d kn kx := by kernel_rfl
theorem zAD.i2 (N : Nat) : LoopsOk Tryz.prog (zAD.cfg N) (nthLoop (fnBody Tryz.f30) 0) := loopsL (l := []) (by kernel_rfl) trivial
theorem zAD.o2 (N : Nat) : LoopOk Tryz.prog (nthLoop (fnBody Tryz.f30) 0) (loopCon N zAD.sk2 zAD.xs2 (fun {R} => zAD.l2 (R := R) N)) := loop_ok (g := zAD.cfg N) tys_ok (zAD.cons N) mixed (zAD.i2 N) (fun d kn kx => zAD.h2 N d kn kx)
theorem zAD.ls (N : Nat) : LoopsOk Tryz.prog (zAD.cfg N) (fnBody Tryz.f30) := loopsL (l := [nthLoop (fnBody Tryz.f30) 0]) (by kernel_rfl) ⟨loopOne (L0 := loopCon N zAD.sk2 zAD.xs2 (fun {R} => zAD.l2 (R := R) N)) (id := 2) (by kernel_rfl) (by kernel_rfl) (zAD.o2 N), trivial⟩
theorem zAD.q2 {R R' : Type} {N n : Nat} {d} {k} {g : R → Option R'} : bindF (loopP (zAD.l2 N) n d k) g = loopP (zAD.l2 N) n d fun e => bindF (k e) g := bindF_loopP (fun d kn kx => by simp only [zAD.l2, bindF_ifB, bindF_bindO, bindF_pure, bindF_none, bindF_onSum]) n d k
theorem zAD.b (N : Nat) (x0 : den s62) (x1 : den (.int .i64)) : body (zAD.cfg N) N Tryz.f30 [.one, .one] [.io, .v] [(false, (.own .imm))] [⟨s62, .imm, x0⟩, ⟨(.int .i64), .imm, x1⟩] (fun r i => some (r, i)) = bindO (zAD N x0 x1) fun r => some ([⟨s23, (.own .imm), r.1⟩], [⟨s62, .imm, r.2⟩]) := by
  show _ = bindF _ _
  conv => rhs; simp only [zAD, bindF_ifB, bindF_bindO, bindF_pure, bindF_none, bindF_onSum, zAD.q2]
  kernel_rfl
theorem zAD.ok (N : Nat) : ConOk Tryz.prog 30 [.one, .one] (zAD.con N) := ok2 (g := zAD.cfg N) (N := N) (res := [(false, (.own .imm))]) tys_ok (zAD.cons N) mixed Tryz.func30 (zAD.ls N) rfl (zAD.b N)
theorem zAD.det (N : Nat) : ConDet (zAD.con N) := det2
def zAQ.con (N : Nat) : Con := { modes := [.io, .v], ptrs := [false], fn := fn2 s62 .imm (.int .i64) .imm (zAQ N) (fun r => [⟨.bool, .imm, r.1⟩]) (fun r => [⟨s62, .imm, r.2⟩]) }
def zAQ.cfg (N : Nat) : Cfg := { ty := tys, keep := [7], flt := [], elm := elm0, live := [], ord := [], con := [((16, [.one, .one]), zAF.con N)], loops := [], joins := [] }
theorem zAQ.cons (N : Nat) : ConsOk Tryz.prog (zAQ.cfg N).con := (consOk_cons (hb16) (zAF.ok N) (zAF.det N) consOk_nil)
theorem zAQ.ls (N : Nat) : LoopsOk Tryz.prog (zAQ.cfg N) (fnBody Tryz.f17) := loopsL (l := []) (by kernel_rfl) trivial
theorem zAQ.b (N : Nat) (x0 : den s62) (x1 : den (.int .i64)) : body (zAQ.cfg N) N Tryz.f17 [.one, .one] [.io, .v] [(false, .imm)] [⟨s62, .imm, x0⟩, ⟨(.int .i64), .imm, x1⟩] (fun r i => some (r, i)) = bindO (zAQ N x0 x1) fun r => some ([⟨.bool, .imm, r.1⟩], [⟨s62, .imm, r.2⟩]) := by
  show _ = bindF _ _
  conv => rhs; simp only [zAQ, bindF_ifB, bindF_bindO, bindF_pure, bindF_none, bindF_onSum]
  kernel_rfl
theorem zAQ.ok (N : Nat) : ConOk Tryz.prog 17 [.one, .one] (zAQ.con N) := ok2 (g := zAQ.cfg N) (N := N) (res := [(false, .imm)]) tys_ok (zAQ.cons N) mixed Tryz.func17 (zAQ.ls N) rfl (zAQ.b N)
theorem zAQ.det (N : Nat) : ConDet (zAQ.con N) := det2
def zBF.con (N : Nat) : Con := { modes := [.io], ptrs := [false], fn := fn1 s62 .imm (zBF N) (fun r => [⟨s24, (.pr (.own .imm) .imm), r.1⟩]) (fun r => [⟨s62, .imm, r.2⟩]) }
def zBF.cfg (N : Nat) : Cfg := { ty := tys, keep := [13, 14, 17, 20, 22, 30, 35, 38, 40, 52, 62], flt := [], elm := elm0, live := [], ord := [], con := [((16, [.one, .one]), zAF.con N), ((30, [.one, .one]), zAD.con N), ((17, [.one, .one]), zAQ.con N)], loops := [], joins := [] }
theorem zBF.cons (N : Nat) : ConsOk Tryz.prog (zBF.cfg N).con := (consOk_cons (hb16) (zAF.ok N) (zAF.det N) (consOk_cons (hb30) (zAD.ok N) (zAD.det N) (consOk_cons (hb17) (zAQ.ok N) (zAQ.det N) consOk_nil)))
theorem zBF.ls (N : Nat) : LoopsOk Tryz.prog (zBF.cfg N) (fnBody Tryz.f13) := loopsL (l := []) (by kernel_rfl) trivial
theorem zBF.b (N : Nat) (x0 : den s62) : body (zBF.cfg N) N Tryz.f13 [.one] [.io] [(false, (.pr (.own .imm) .imm))] [⟨s62, .imm, x0⟩] (fun r i => some (r, i)) = bindO (zBF N x0) fun r => some ([⟨s24, (.pr (.own .imm) .imm), r.1⟩], [⟨s62, .imm, r.2⟩]) := by
  show _ = bindF _ _
  conv => rhs; simp only [zBF, bindF_ifB, bindF_bindO, bindF_pure, bindF_none, bindF_onSum]
  kernel_rfl
theorem zBF.ok (N : Nat) : ConOk Tryz.prog 13 [.one] (zBF.con N) := ok1 (g := zBF.cfg N) (N := N) (res := [(false, (.pr (.own .imm) .imm))]) tys_ok (zBF.cons N) mixed Tryz.func13 (zBF.ls N) rfl (zBF.b N)
theorem zBF.det (N : Nat) : ConDet (zBF.con N) := det1
def zAE.sk5 : Skel := ⟨.ptr 0 [] :: (dd 1 (.ptr 50 [] :: (.ptr 51 [] :: (.pv (.int .i64) :: (dd 66 []))))), [⟨0, s62, .imm, true, false⟩, ⟨50, s27, (.pr (.own (.own .imm)) .imm), true, false⟩, ⟨51, s27, (.pr (.own (.own .imm)) .imm), true, false⟩]⟩
def zAE.xs5 : List XS := [⟨.exit 0, [0, 2, 3], ⟨.ptr 0 [] :: (dd 1 (.ptr 50 [] :: (.ptr 51 [] :: (dd 67 [])))), [⟨0, s62, .imm, true, false⟩, ⟨50, s27, (.pr (.own (.own .imm)) .imm), true, false⟩, ⟨51, s27, (.pr (.own (.own .imm)) .imm), true, false⟩]⟩⟩]
def zAE.con (N : Nat) : Con := { modes := [.io], ptrs := [false], fn := fn1 s62 .imm (zAE N) (fun r => [⟨s27, (.pr (.own (.own .imm)) .imm), r.1⟩]) (fun r => [⟨s62, .imm, r.2⟩]) }
def zAE.cfg (N : Nat) : Cfg := { ty := tys, keep := [7, 9, 11, 21, 23, 35, 38, 40, 58, 45, 47], flt := [], elm := elm0, live := [(5, [0, 2, 3, 4])], ord := [(7, [0, 1, 2, 3, 4, 5, 6, 7, 8, 9, 10]), (14, [0, 1, 4, 2, 3, 5, 6, 7, 8, 9]), (12, [0, 1, 2, 3, 4, 5, 6, 7, 8, 9, 10])], con := [((16, [.one, .one]), zAF.con N), ((17, [.one, .one]), zAQ.con N), ((30, [.one, .one]), zAD.con N)], loops := [(5, loopCon N zAE.sk5 zAE.xs5 (fun {R} => zAE.l5 (R := R) N))], joins := [] }
theorem zAE.cons (N : Nat) : ConsOk Tryz.prog (zAE.cfg N).con := (consOk_cons (hb16) (zAF.ok N) (zAF.det N) (consOk_cons (hb17) (zAQ.ok N) (zAQ.det N) (consOk_cons (hb30) (zAD.ok N) (zAD.det N) consOk_nil)))
theorem zAE.h5 {R : Type} (N : Nat) (d : zAE.sk5.D) (kn : zAE.sk5.D → Option R) (kx : XD zAE.xs5 → Option R) : roundK (zAE.cfg N) N (nthLoop (fnBody Tryz.f14) 0) zAE.sk5 zAE.xs5 d kn kx = zAE.l5 N d kn kx := by kernel_rfl
theorem zAE.i5 (N : Nat) : LoopsOk Tryz.prog (zAE.cfg N) (nthLoop (fnBody Tryz.f14) 0) := loopsL (l := []) (by kernel_rfl) trivial
theorem zAE.o5 (N : Nat) : LoopOk Tryz.prog (nthLoop (fnBody Tryz.f14) 0) (loopCon N zAE.sk5 zAE.xs5 (fun {R} => zAE.l5 (R := R) N)) := loop_ok (g := zAE.cfg N) tys_ok (zAE.cons N) mixed (zAE.i5 N) (fun d kn kx => zAE.h5 N d kn kx)
theorem zAE.ls (N : Nat) : LoopsOk Tryz.prog (zAE.cfg N) (fnBody Tryz.f14) := loopsL (l := [nthLoop (fnBody Tryz.f14) 0]) (by kernel_rfl) ⟨loopOne (L0 := loopCon N zAE.sk5 zAE.xs5 (fun {R} => zAE.l5 (R := R) N)) (id := 5) (by kernel_rfl) (by kernel_rfl) (zAE.o5 N), trivial⟩
theorem zAE.q5 {R R' : Type} {N n : Nat} {d} {k} {g : R → Option R'} : bindF (loopP (zAE.l5 N) n d k) g = loopP (zAE.l5 N) n d fun e => bindF (k e) g := bindF_loopP (fun d kn kx => by simp only [zAE.l5, bindF_ifB, bindF_bindO, bindF_pure, bindF_none, bindF_onSum]) n d k
theorem zAE.b (N : Nat) (x0 : den s62) : body (zAE.cfg N) N Tryz.f14 [.one] [.io] [(false, (.pr (.own (.own .imm)) .imm))] [⟨s62, .imm, x0⟩] (fun r i => some (r, i)) = bindO (zAE N x0) fun r => some ([⟨s27, (.pr (.own (.own .imm)) .imm), r.1⟩], [⟨s62, .imm, r.2⟩]) := by
  show _ = bindF _ _
  conv => rhs; simp only [zAE, bindF_ifB, bindF_bindO, bindF_pure, bindF_none, bindF_onSum, zAE.q5]
  kernel_rfl
theorem zAE.ok (N : Nat) : ConOk Tryz.prog 14 [.one] (zAE.con N) := ok1 (g := zAE.cfg N) (N := N) (res := [(false, (.pr (.own (.own .imm)) .imm))]) tys_ok (zAE.cons N) mixed Tryz.func14 (zAE.ls N) rfl (zAE.b N)
theorem zAE.det (N : Nat) : ConDet (zAE.con N) := det1
def zB4.sk5 : Skel := ⟨.pv (.int .i64) :: (dd 2 (.pv .bool :: (.pv .str :: (dd 26 [])))), []⟩
def zB4.xs5 : List XS := [⟨.exit 0, [3, 4], ⟨dd 3 (.pv .bool :: (.pv .str :: (dd 26 []))), []⟩⟩]
def zB4.con (N : Nat) : Con := { modes := [.v], ptrs := [false], fn := fn1 (.int .i64) .imm (zB4 N) (fun r => [⟨.str, .imm, r⟩]) (fun r => []) }
def zB4.cfg (N : Nat) : Cfg := { ty := tys, keep := [], flt := [], elm := elm0, live := [(5, [0, 3, 4])], ord := [], con := [], loops := [(5, loopCon N zB4.sk5 zB4.xs5 (fun {R} => zB4.l5 (R := R) N))], joins := [] }
theorem zB4.cons (N : Nat) : ConsOk Tryz.prog (zB4.cfg N).con := consOk_nil
theorem zB4.h5 {R : Type} (N : Nat) (d : zB4.sk5.D) (kn : zB4.sk5.D → Option R) (kx : XD zB4.xs5 → Option R) : roundK (zB4.cfg N) N (nthLoop (fnBody Tryz.f31) 0) zB4.sk5 zB4.xs5 d kn kx = zB4.l5 N d kn kx := by kernel_rfl
theorem zB4.i5 (N : Nat) : LoopsOk Tryz.prog (zB4.cfg N) (nthLoop (fnBody Tryz.f31) 0) := loopsL (l := []) (by kernel_rfl) trivial
theorem zB4.o5 (N : Nat) : LoopOk Tryz.prog (nthLoop (fnBody Tryz.f31) 0) (loopCon N zB4.sk5 zB4.xs5 (fun {R} => zB4.l5 (R := R) N)) := loop_ok (g := zB4.cfg N) tys_ok (zB4.cons N) mixed (zB4.i5 N) (fun d kn kx => zB4.h5 N d kn kx)
theorem zB4.ls (N : Nat) : LoopsOk Tryz.prog (zB4.cfg N) (fnBody Tryz.f31) := loopsL (l := [nthLoop (fnBody Tryz.f31) 0]) (by kernel_rfl) ⟨loopOne (L0 := loopCon N zB4.sk5 zB4.xs5 (fun {R} => zB4.l5 (R := R) N)) (id := 5) (by kernel_rfl) (by kernel_rfl) (zB4.o5 N), trivial⟩
theorem zB4.q5 {R R' : Type} {N n : Nat} {d} {k} {g : R → Option R'} : bindF (loopP (zB4.l5 N) n d k) g = loopP (zB4.l5 N) n d fun e => bindF (k e) g := bindF_loopP (fun d kn kx => by simp only [zB4.l5, bindF_ifB, bindF_bindO, bindF_pure, bindF_none, bindF_onSum]) n d k
theorem zB4.b (N : Nat) (x0 : den (.int .i64)) : body (zB4.cfg N) N Tryz.f31 [.one] [.v] [(false, .imm)] [⟨(.int .i64), .imm, x0⟩] (fun r i => some (r, i)) = bindO (zB4 N x0) fun r => some ([⟨.str, .imm, r⟩], []) := by
  show _ = bindF _ _
  conv => rhs; simp only [zB4, bindF_ifB, bindF_bindO, bindF_pure, bindF_none, bindF_onSum, zB4.q5]
  kernel_rfl
theorem zB4.ok (N : Nat) : ConOk Tryz.prog 31 [.one] (zB4.con N) := ok1 (g := zB4.cfg N) (N := N) (res := [(false, .imm)]) tys_ok (zB4.cons N) mixed Tryz.func31 (zB4.ls N) rfl (zB4.b N)
theorem zB4.det (N : Nat) : ConDet (zB4.con N) := det1
def zB1.con (N : Nat) : Con := { modes := [.io, .v], ptrs := [false], fn := fn2 s62 .imm (.sl 9 .str) .imm (zB1 N) (fun r => [⟨.str, .imm, r.1⟩]) (fun r => [⟨s62, .imm, r.2⟩]) }
def zB1.cfg (N : Nat) : Cfg := { ty := tys, keep := [9], flt := [], elm := elm0, live := [], ord := [], con := [((16, [.one, .one]), zAF.con N)], loops := [], joins := [] }
theorem zB1.cons (N : Nat) : ConsOk Tryz.prog (zB1.cfg N).con := (consOk_cons (hb16) (zAF.ok N) (zAF.det N) consOk_nil)
theorem zB1.ls (N : Nat) : LoopsOk Tryz.prog (zB1.cfg N) (fnBody Tryz.f18) := loopsL (l := []) (by kernel_rfl) trivial
theorem zB1.b (N : Nat) (x0 : den s62) (x1 : den (.sl 9 .str)) : body (zB1.cfg N) N Tryz.f18 [.one, .one] [.io, .v] [(false, .imm)] [⟨s62, .imm, x0⟩, ⟨(.sl 9 .str), .imm, x1⟩] (fun r i => some (r, i)) = bindO (zB1 N x0 x1) fun r => some ([⟨.str, .imm, r.1⟩], [⟨s62, .imm, r.2⟩]) := by
  show _ = bindF _ _
  conv => rhs; simp only [zB1, bindF_ifB, bindF_bindO, bindF_pure, bindF_none, bindF_onSum]
  kernel_rfl
theorem zB1.ok (N : Nat) : ConOk Tryz.prog 18 [.one, .one] (zB1.con N) := ok2 (g := zB1.cfg N) (N := N) (res := [(false, .imm)]) tys_ok (zB1.cons N) mixed Tryz.func18 (zB1.ls N) rfl (zB1.b N)
theorem zB1.det (N : Nat) : ConDet (zB1.con N) := det2
def zAG.sk2 : Skel := ⟨.ptr 0 [] :: (.pv (.int .i64) :: (dd 3 (.pv .str :: (dd 32 [])))), [⟨0, s62, .imm, true, false⟩]⟩
def zAG.xs2 : List XS := [⟨.exit 0, [5], ⟨dd 5 (.pv .str :: (dd 32 [])), [⟨0, s62, .imm, true, false⟩]⟩⟩]
def zAG.con (N : Nat) : Con := { modes := [.io, .v], ptrs := [false], fn := fn2 s62 .imm (.int .i64) .imm (zAG N) (fun r => [⟨.str, .imm, r.1⟩]) (fun r => [⟨s62, .imm, r.2⟩]) }
def zAG.cfg (N : Nat) : Cfg := { ty := tys, keep := [11, 14, 16, 21, 24, 28, 31, 35], flt := [], elm := elm0, live := [(2, [0, 1, 5])], ord := [], con := [((17, [.one, .one]), zAQ.con N), ((16, [.one, .one]), zAF.con N), ((31, [.one]), zB4.con N), ((18, [.one, .one]), zB1.con N)], loops := [(2, loopCon N zAG.sk2 zAG.xs2 (fun {R} => zAG.l2 (R := R) N))], joins := [(3, [⟨.normal, [0, 1, 5], ⟨.ptr 0 [] :: (.pv (.int .i64) :: (dd 3 (.pv .str :: (dd 32 [])))), [⟨0, s62, .imm, true, false⟩]⟩⟩])] }
theorem zAG.cons (N : Nat) : ConsOk Tryz.prog (zAG.cfg N).con := (consOk_cons (hb17) (zAQ.ok N) (zAQ.det N) (consOk_cons (hb16) (zAF.ok N) (zAF.det N) (consOk_cons (hb31) (zB4.ok N) (zB4.det N) (consOk_cons (hb18) (zB1.ok N) (zB1.det N) consOk_nil))))
theorem zAG.h2 {R : Type} (N : Nat) (d : zAG.sk2.D) (kn : zAG.sk2.D → Option R) (kx : XD zAG.xs2 → Option R) : roundK (zAG.cfg N) N (nthLoop (fnBody Tryz.f15) 0) zAG.sk2 zAG.xs2 d kn kx = zAG.l2 N d kn kx := by kernel_rfl
theorem zAG.i2 (N : Nat) : LoopsOk Tryz.prog (zAG.cfg N) (nthLoop (fnBody Tryz.f15) 0) := loopsL (l := []) (by kernel_rfl) trivial
theorem zAG.o2 (N : Nat) : LoopOk Tryz.prog (nthLoop (fnBody Tryz.f15) 0) (loopCon N zAG.sk2 zAG.xs2 (fun {R} => zAG.l2 (R := R) N)) := loop_ok (g := zAG.cfg N) tys_ok (zAG.cons N) mixed (zAG.i2 N) (fun d kn kx => zAG.h2 N d kn kx)
theorem zAG.ls (N : Nat) : LoopsOk Tryz.prog (zAG.cfg N) (fnBody Tryz.f15) := loopsL (l := [nthLoop (fnBody Tryz.f15) 0]) (by kernel_rfl) ⟨loopOne (L0 := loopCon N zAG.sk2 zAG.xs2 (fun {R} => zAG.l2 (R := R) N)) (id := 2) (by kernel_rfl) (by kernel_rfl) (zAG.o2 N), trivial⟩
theorem zAG.q2 {R R' : Type} {N n : Nat} {d} {k} {g : R → Option R'} : bindF (loopP (zAG.l2 N) n d k) g = loopP (zAG.l2 N) n d fun e => bindF (k e) g := bindF_loopP (fun d kn kx => by simp only [zAG.l2, bindF_ifB, bindF_bindO, bindF_pure, bindF_none, bindF_onSum]) n d k
theorem zAG.b (N : Nat) (x0 : den s62) (x1 : den (.int .i64)) : body (zAG.cfg N) N Tryz.f15 [.one, .one] [.io, .v] [(false, .imm)] [⟨s62, .imm, x0⟩, ⟨(.int .i64), .imm, x1⟩] (fun r i => some (r, i)) = bindO (zAG N x0 x1) fun r => some ([⟨.str, .imm, r.1⟩], [⟨s62, .imm, r.2⟩]) := by
  show _ = bindF _ _
  conv => rhs; simp only [zAG, bindF_ifB, bindF_bindO, bindF_pure, bindF_none, bindF_onSum, zAG.q2]
  kernel_rfl
theorem zAG.ok (N : Nat) : ConOk Tryz.prog 15 [.one, .one] (zAG.con N) := ok2 (g := zAG.cfg N) (N := N) (res := [(false, .imm)]) tys_ok (zAG.cons N) mixed Tryz.func15 (zAG.ls N) rfl (zAG.b N)
theorem zAG.det (N : Nat) : ConDet (zAG.con N) := det2
def zCC.con (N : Nat) : Con := { modes := [.v], ptrs := [false, false, false], fn := fn1 s22 .imm (zCC N) (fun r => [⟨s24, (.pr (.own .imm) .imm), r.1⟩, ⟨s27, (.pr (.own (.own .imm)) .imm), r.2.1⟩, ⟨.str, .imm, r.2.2⟩]) (fun r => []) }
def zCC.cfg (N : Nat) : Cfg := { ty := tys, keep := [10, 12, 14, 17, 19, 21, 24], flt := [], elm := elm0, live := [], ord := [(7, [0, 1, 2, 3, 4, 5])], con := [((12, [.one]), zAR.con N), ((13, [.one]), zBF.con N), ((14, [.one]), zAE.con N), ((16, [.one, .one]), zAF.con N), ((15, [.one, .one]), zAG.con N), ((17, [.one, .one]), zAQ.con N), ((18, [.one, .one]), zB1.con N)], loops := [], joins := [] }
theorem zCC.cons (N : Nat) : ConsOk Tryz.prog (zCC.cfg N).con := (consOk_cons (hb12) (zAR.ok N) (zAR.det N) (consOk_cons (hb13) (zBF.ok N) (zBF.det N) (consOk_cons (hb14) (zAE.ok N) (zAE.det N) (consOk_cons (hb16) (zAF.ok N) (zAF.det N) (consOk_cons (hb15) (zAG.ok N) (zAG.det N) (consOk_cons (hb17) (zAQ.ok N) (zAQ.det N) (consOk_cons (hb18) (zB1.ok N) (zB1.det N) consOk_nil)))))))
theorem zCC.ls (N : Nat) : LoopsOk Tryz.prog (zCC.cfg N) (fnBody Tryz.f4) := loopsL (l := []) (by kernel_rfl) trivial
theorem zCC.b (N : Nat) (x0 : den s22) : body (zCC.cfg N) N Tryz.f4 [.one] [.v] [(false, (.pr (.own .imm) .imm)), (false, (.pr (.own (.own .imm)) .imm)), (false, .imm)] [⟨s22, .imm, x0⟩] (fun r i => some (r, i)) = bindO (zCC N x0) fun r => some ([⟨s24, (.pr (.own .imm) .imm), r.1⟩, ⟨s27, (.pr (.own (.own .imm)) .imm), r.2.1⟩, ⟨.str, .imm, r.2.2⟩], []) := by
  show _ = bindF _ _
  conv => rhs; simp only [zCC, bindF_ifB, bindF_bindO, bindF_pure, bindF_none, bindF_onSum]
  kernel_rfl
theorem zCC.ok (N : Nat) : ConOk Tryz.prog 4 [.one] (zCC.con N) := ok1 (g := zCC.cfg N) (N := N) (res := [(false, (.pr (.own .imm) .imm)), (false, (.pr (.own (.own .imm)) .imm)), (false, .imm)]) tys_ok (zCC.cons N) mixed Tryz.func4 (zCC.ls N) rfl (zCC.b N)
theorem zCC.det (N : Nat) : ConDet (zCC.con N) := det1
def zBV.con (N : Nat) : Con := { modes := [.v], ptrs := [false], fn := fn1 (.int .i64) .imm (zBV N) (fun r => [⟨.bool, .imm, r⟩]) (fun r => []) }
def zBV.cfg (N : Nat) : Cfg := { ty := tys, keep := [], flt := [], elm := elm0, live := [], ord := [], con := [], loops := [], joins := [] }
theorem zBV.cons (N : Nat) : ConsOk Tryz.prog (zBV.cfg N).con := consOk_nil
theorem zBV.ls (N : Nat) : LoopsOk Tryz.prog (zBV.cfg N) (fnBody Tryz.f32) := loopsL (l := []) (by kernel_rfl) trivial
theorem zBV.b (N : Nat) (x0 : den (.int .i64)) : body (zBV.cfg N) N Tryz.f32 [.one] [.v] [(false, .imm)] [⟨(.int .i64), .imm, x0⟩] (fun r i => some (r, i)) = bindO (zBV N x0) fun r => some ([⟨.bool, .imm, r⟩], []) := by
  show _ = bindF _ _
  conv => rhs; simp only [zBV, bindF_ifB, bindF_bindO, bindF_pure, bindF_none, bindF_onSum]
  kernel_rfl
theorem zBV.ok (N : Nat) : ConOk Tryz.prog 32 [.one] (zBV.con N) := ok1 (g := zBV.cfg N) (N := N) (res := [(false, .imm)]) tys_ok (zBV.cons N) mixed Tryz.func32 (zBV.ls N) rfl (zBV.b N)
theorem zBV.det (N : Nat) : ConDet (zBV.con N) := det1
end Go.AE.F
end
