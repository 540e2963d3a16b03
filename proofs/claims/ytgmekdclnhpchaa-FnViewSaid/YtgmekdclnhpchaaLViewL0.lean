/- The printed functions are what the program comes to: contracts. -/
import Derived.Test.YtgmekdclnhpchaaLViewF5
import Derived.Test.YtgmekdclnhpchaaLViewT
noncomputable section
namespace Go.AE.F
open Go.AE Go.Proofs
set_option maxRecDepth 100000
def zAE.sk3 : Skel := ⟨.pv s22 :: (dd 2 (.ptr 50 [] :: (.pv (.int .i64) :: (dd 42 [])))), [⟨50, s80, .imm, true, false⟩]⟩
def zAE.xs3 : List XS := [⟨.exit 0, [0, 3], ⟨.pv s22 :: (dd 2 (.ptr 50 [] :: (dd 43 []))), [⟨50, s80, .imm, true, false⟩]⟩⟩]
def zAE.con (N : Nat) : Con := { modes := [.v], ptrs := [true], fn := fn1 s22 .imm (zAE N) (fun r => [⟨s80, .imm, r⟩]) (fun r => []) }
def zAE.cfg (N : Nat) : Cfg := { ty := tys, keep := [], flt := [], elm := elm0, live := [(3, [0, 3, 4])], ord := [(5, [0, 1, 2, 3, 4, 5, 6, 7, 8, 9, 10, 11, 12, 13, 14])], con := [], loops := [(3, loopCon N zAE.sk3 zAE.xs3 (fun {R} => zAE.l3 (R := R) N))], joins := [] }
theorem zAE.cons (N : Nat) : ConsOk Try.prog (zAE.cfg N).con := consOk_nil
theorem zAE.h3 {R : Type} (N : Nat) (d : zAE.sk3.D) (kn : zAE.sk3.D → Option R) (kx : XD zAE.xs3 → Option R) : roundK (zAE.cfg N) N (nthLoop (fnBody Try.f13) 0) zAE.sk3 zAE.xs3 d kn kx = zAE.l3 N d kn kx := by kernel_rfl
theorem zAE.i3 (N : Nat) : LoopsOk Try.prog (zAE.cfg N) (nthLoop (fnBody Try.f13) 0) := loopsL (l := []) (by kernel_rfl) trivial
theorem zAE.o3 (N : Nat) : LoopOk Try.prog (nthLoop (fnBody Try.f13) 0) (loopCon N zAE.sk3 zAE.xs3 (fun {R} => zAE.l3 (R := R) N)) := loop_ok (g := zAE.cfg N) tys_ok (zAE.cons N) mixed (zAE.i3 N) (fun d kn kx => zAE.h3 N d kn kx)
theorem zAE.ls (N : Nat) : LoopsOk Try.prog (zAE.cfg N) (fnBody Try.f13) := loopsL (l := [nthLoop (fnBody Try.f13) 0]) (by kernel_rfl) ⟨loopOne (L0 := loopCon N zAE.sk3 zAE.xs3 (fun {R} => zAE.l3 (R := R) N)) (id := 3) (by kernel_rfl) (by kernel_rfl) (zAE.o3 N), trivial⟩
theorem zAE.q3 {R R' : Type} {N n : Nat} {d} {k} {g : R → Option R'} : bindF (loopP (zAE.l3 N) n d k) g = loopP (zAE.l3 N) n d fun e => bindF (k e) g := bindF_loopP (fun d kn kx => by simp only [zAE.l3, bindF_ifB, bindF_bindO, bindF_pure, bindF_none, bindF_onSum]) n d k
theorem zAE.b (N : Nat) (x0 : den s22) : body (zAE.cfg N) N Try.f13 [.one] [.v] [(true, .imm)] [⟨s22, .imm, x0⟩] (fun r i => some (r, i)) = bindO (zAE N x0) fun r => some ([⟨s80, .imm, r⟩], []) := by
  show _ = bindF _ _
  conv => rhs; simp only [zAE, bindF_ifB, bindF_bindO, bindF_pure, bindF_none, bindF_onSum, zAE.q3]
  kernel_rfl
theorem zAE.ok (N : Nat) : ConOk Try.prog 13 [.one] (zAE.con N) := ok1 (g := zAE.cfg N) (N := N) (res := [(true, .imm)]) tys_ok (zAE.cons N) mixed Try.func13 (zAE.ls N) rfl (zAE.b N)
theorem zAE.det (N : Nat) : ConDet (zAE.con N) := det1
def zAB.con (N : Nat) : Con := { modes := [.io, .v], ptrs := [false], fn := fn2 s80 .imm (.int .i64) .imm (zAB N) (fun r => [⟨(.int .i64), .imm, r.1⟩]) (fun r => [⟨s80, .imm, r.2⟩]) }
def zAB.cfg (N : Nat) : Cfg := { ty := tys, keep := [], flt := [], elm := elm0, live := [], ord := [(4, [0, 1, 2, 3, 4, 5, 6, 7, 8, 9]), (5, [0, 1, 2, 3, 4, 5, 6, 7, 8, 9, 10, 11]), (7, [0, 1, 2, 3, 4, 5, 6, 7, 8, 9, 10, 11, 12, 13]), (8, [0, 1, 2, 3, 4, 5, 6, 7, 8, 9, 10, 11, 12, 13]), (9, [0, 1, 2, 3, 4, 5, 6, 7, 8, 9, 10, 11, 12, 13])], con := [], loops := [], joins := [] }
theorem zAB.cons (N : Nat) : ConsOk Try.prog (zAB.cfg N).con := consOk_nil
theorem zAB.ls (N : Nat) : LoopsOk Try.prog (zAB.cfg N) (fnBody Try.f16) := loopsL (l := []) (by kernel_rfl) trivial
theorem zAB.b (N : Nat) (x0 : den s80) (x1 : den (.int .i64)) : body (zAB.cfg N) N Try.f16 [.one, .one] [.io, .v] [(false, .imm)] [⟨s80, .imm, x0⟩, ⟨(.int .i64), .imm, x1⟩] (fun r i => some (r, i)) = bindO (zAB N x0 x1) fun r => some ([⟨(.int .i64), .imm, r.1⟩], [⟨s80, .imm, r.2⟩]) := by
  show _ = bindF _ _
  conv => rhs; simp only [zAB, bindF_ifB, bindF_bindO, bindF_pure, bindF_none, bindF_onSum]
  kernel_rfl
theorem zAB.ok (N : Nat) : ConOk Try.prog 16 [.one, .one] (zAB.con N) := ok2 (g := zAB.cfg N) (N := N) (res := [(false, .imm)]) tys_ok (zAB.cons N) mixed Try.func16 (zAB.ls N) rfl (zAB.b N)
theorem zAB.det (N : Nat) : ConDet (zAB.con N) := det2
def zB0.con (N : Nat) : Con := { modes := [.io], ptrs := [false], fn := fn1 s80 .imm (zB0 N) (fun r => [⟨(.int .i64), .imm, r.1⟩]) (fun r => [⟨s80, .imm, r.2⟩]) }
def zB0.cfg (N : Nat) : Cfg := { ty := tys, keep := [4, 13, 20, 27, 34, 40, 43], flt := [], elm := elm0, live := [], ord := [], con := [((16, [.one, .one]), zAB.con N)], loops := [], joins := [] }
theorem zB0.cons (N : Nat) : ConsOk Try.prog (zB0.cfg N).con := (consOk_cons (hb16) (zAB.ok N) (zAB.det N) consOk_nil)
theorem zB0.ls (N : Nat) : LoopsOk Try.prog (zB0.cfg N) (fnBody Try.f57) := loopsL (l := []) (by kernel_rfl) trivial
theorem zB0.b (N : Nat) (x0 : den s80) : body (zB0.cfg N) N Try.f57 [.one] [.io] [(false, .imm)] [⟨s80, .imm, x0⟩] (fun r i => some (r, i)) = bindO (zB0 N x0) fun r => some ([⟨(.int .i64), .imm, r.1⟩], [⟨s80, .imm, r.2⟩]) := by
  show _ = bindF _ _
  conv => rhs; simp only [zB0, bindF_ifB, bindF_bindO, bindF_pure, bindF_none, bindF_onSum]
  kernel_rfl
theorem zB0.ok (N : Nat) : ConOk Try.prog 57 [.one] (zB0.con N) := ok1 (g := zB0.cfg N) (N := N) (res := [(false, .imm)]) tys_ok (zB0.cons N) mixed Try.func57 (zB0.ls N) rfl (zB0.b N)
theorem zB0.det (N : Nat) : ConDet (zB0.con N) := det1
def zA5.sk2 : Skel := ⟨.ptr 0 [] :: (.pv (.int .i64) :: (dd 3 (.ov 50 [] :: (dd 11 [])))), [⟨0, s80, .imm, true, false⟩, ⟨50, s23, (.own .imm), false, false⟩]⟩
def zA5.xs2 : List XS := [⟨.exit 0, [5], ⟨dd 5 (.ov 50 [] :: (dd 11 [])), [⟨0, s80, .imm, true, false⟩, ⟨50, s23, (.own .imm), false, false⟩]⟩⟩]
def zA5.con (N : Nat) : Con := { modes := [.io, .v], ptrs := [false], fn := fn2 s80 .imm (.int .i64) .imm (zA5 N) (fun r => [⟨s23, (.own .imm), r.1⟩]) (fun r => [⟨s80, .imm, r.2⟩]) }
def zA5.cfg (N : Nat) : Cfg := { ty := tys, keep := [13], flt := [], elm := elm0, live := [(2, [0, 1, 5])], ord := [], con := [((57, [.one]), zB0.con N)], loops := [(2, loopCon N zA5.sk2 zA5.xs2 (fun {R} => zA5.l2 (R := R) N))], joins := [] }
theorem zA5.cons (N : Nat) : ConsOk Try.prog (zA5.cfg N).con := (consOk_cons (hb57) (zB0.ok N) (zB0.det N) consOk_nil)
theorem zA5.h2 {R : Type} (N : Nat) (d : zA5.sk2.D) (kn : zA5.sk2.D → Option R) (kx : XD zA5.xs2 → Option R) : roundK (zA5.cfg N) N (nthLoop (fnBody Try.f40) 0) zA5.sk2 zA5.xs2 d kn kx = zA5.l2 N d kn kx := by kernel_rfl
theorem zA5.i2 (N : Nat) : LoopsOk Try.prog (zA5.cfg N) (nthLoop (fnBody Try.f40) 0) := loopsL (l := []) (by kernel_rfl) trivial
theorem zA5.o2 (N : Nat) : LoopOk Try.prog (nthLoop (fnBody Try.f40) 0) (loopCon N zA5.sk2 zA5.xs2 (fun {R} => zA5.l2 (R := R) N)) := loop_ok (g := zA5.cfg N) tys_ok (zA5.cons N) mixed (zA5.i2 N) (fun d kn kx => zA5.h2 N d kn kx)
theorem zA5.ls (N : Nat) : LoopsOk Try.prog (zA5.cfg N) (fnBody Try.f40) := loopsL (l := [nthLoop (fnBody Try.f40) 0]) (by kernel_rfl) ⟨loopOne (L0 := loopCon N zA5.sk2 zA5.xs2 (fun {R} => zA5.l2 (R := R) N)) (id := 2) (by kernel_rfl) (by kernel_rfl) (zA5.o2 N), trivial⟩
theorem zA5.q2 {R R' : Type} {N n : Nat} {d} {k} {g : R → Option R'} : bindF (loopP (zA5.l2 N) n d k) g = loopP (zA5.l2 N) n d fun e => bindF (k e) g := bindF_loopP (fun d kn kx => by simp only [zA5.l2, bindF_ifB, bindF_bindO, bindF_pure, bindF_none, bindF_onSum]) n d k
theorem zA5.b (N : Nat) (x0 : den s80) (x1 : den (.int .i64)) : body (zA5.cfg N) N Try.f40 [.one, .one] [.io, .v] [(false, (.own .imm))] [⟨s80, .imm, x0⟩, ⟨(.int .i64), .imm, x1⟩] (fun r i => some (r, i)) = bindO (zA5 N x0 x1) fun r => some ([⟨s23, (.own .imm), r.1⟩], [⟨s80, .imm, r.2⟩]) := by
  show _ = bindF _ _
  conv => rhs; simp only [zA5, bindF_ifB, bindF_bindO, bindF_pure, bindF_none, bindF_onSum, zA5.q2]
  kernel_rfl
theorem zA5.ok (N : Nat) : ConOk Try.prog 40 [.one, .one] (zA5.con N) := ok2 (g := zA5.cfg N) (N := N) (res := [(false, (.own .imm))]) tys_ok (zA5.cons N) mixed Try.func40 (zA5.ls N) rfl (zA5.b N)
theorem zA5.det (N : Nat) : ConDet (zA5.con N) := det2
def zAH.con (N : Nat) : Con := { modes := [.io, .v], ptrs := [false], fn := fn2 s80 .imm (.int .i64) .imm (zAH N) (fun r => [⟨.bool, .imm, r.1⟩]) (fun r => [⟨s80, .imm, r.2⟩]) }
def zAH.cfg (N : Nat) : Cfg := { ty := tys, keep := [7], flt := [], elm := elm0, live := [], ord := [], con := [((16, [.one, .one]), zAB.con N)], loops := [], joins := [] }
theorem zAH.cons (N : Nat) : ConsOk Try.prog (zAH.cfg N).con := (consOk_cons (hb16) (zAB.ok N) (zAB.det N) consOk_nil)
theorem zAH.ls (N : Nat) : LoopsOk Try.prog (zAH.cfg N) (fnBody Try.f17) := loopsL (l := []) (by kernel_rfl) trivial
theorem zAH.b (N : Nat) (x0 : den s80) (x1 : den (.int .i64)) : body (zAH.cfg N) N Try.f17 [.one, .one] [.io, .v] [(false, .imm)] [⟨s80, .imm, x0⟩, ⟨(.int .i64), .imm, x1⟩] (fun r i => some (r, i)) = bindO (zAH N x0 x1) fun r => some ([⟨.bool, .imm, r.1⟩], [⟨s80, .imm, r.2⟩]) := by
  show _ = bindF _ _
  conv => rhs; simp only [zAH, bindF_ifB, bindF_bindO, bindF_pure, bindF_none, bindF_onSum]
  kernel_rfl
theorem zAH.ok (N : Nat) : ConOk Try.prog 17 [.one, .one] (zAH.con N) := ok2 (g := zAH.cfg N) (N := N) (res := [(false, .imm)]) tys_ok (zAH.cons N) mixed Try.func17 (zAH.ls N) rfl (zAH.b N)
theorem zAH.det (N : Nat) : ConDet (zAH.con N) := det2
def zAN.con (N : Nat) : Con := { modes := [.io], ptrs := [false], fn := fn1 s80 .imm (zAN N) (fun r => [⟨s23, (.own .imm), r.1⟩]) (fun r => [⟨s80, .imm, r.2⟩]) }
def zAN.cfg (N : Nat) : Cfg := { ty := tys, keep := [6, 7, 9], flt := [], elm := elm0, live := [], ord := [], con := [((16, [.one, .one]), zAB.con N), ((40, [.one, .one]), zA5.con N), ((17, [.one, .one]), zAH.con N)], loops := [], joins := [] }
theorem zAN.cons (N : Nat) : ConsOk Try.prog (zAN.cfg N).con := (consOk_cons (hb16) (zAB.ok N) (zAB.det N) (consOk_cons (hb40) (zA5.ok N) (zA5.det N) (consOk_cons (hb17) (zAH.ok N) (zAH.det N) consOk_nil)))
theorem zAN.ls (N : Nat) : LoopsOk Try.prog (zAN.cfg N) (fnBody Try.f14) := loopsL (l := []) (by kernel_rfl) trivial
theorem zAN.b (N : Nat) (x0 : den s80) : body (zAN.cfg N) N Try.f14 [.one] [.io] [(false, (.own .imm))] [⟨s80, .imm, x0⟩] (fun r i => some (r, i)) = bindO (zAN N x0) fun r => some ([⟨s23, (.own .imm), r.1⟩], [⟨s80, .imm, r.2⟩]) := by
  show _ = bindF _ _
  conv => rhs; simp only [zAN, bindF_ifB, bindF_bindO, bindF_pure, bindF_none, bindF_onSum]
  kernel_rfl
theorem zAN.ok (N : Nat) : ConOk Try.prog 14 [.one] (zAN.con N) := ok1 (g := zAN.cfg N) (N := N) (res := [(false, (.own .imm))]) tys_ok (zAN.cons N) mixed Try.func14 (zAN.ls N) rfl (zAN.b N)
theorem zAN.det (N : Nat) : ConDet (zAN.con N) := det1
def zAX.con (N : Nat) : Con := { modes := [.io], ptrs := [false], fn := fn1 s80 .imm (zAX N) (fun r => [⟨s24, (.pr (.own .imm) .imm), r.1⟩]) (fun r => [⟨s80, .imm, r.2⟩]) }
def zAX.cfg (N : Nat) : Cfg := { ty := tys, keep := [13, 14, 17, 20, 22, 30, 35, 38, 40, 52, 62], flt := [], elm := elm0, live := [], ord := [], con := [((16, [.one, .one]), zAB.con N), ((40, [.one, .one]), zA5.con N), ((17, [.one, .one]), zAH.con N)], loops := [], joins := [] }
theorem zAX.cons (N : Nat) : ConsOk Try.prog (zAX.cfg N).con := (consOk_cons (hb16) (zAB.ok N) (zAB.det N) (consOk_cons (hb40) (zA5.ok N) (zA5.det N) (consOk_cons (hb17) (zAH.ok N) (zAH.det N) consOk_nil)))
theorem zAX.ls (N : Nat) : LoopsOk Try.prog (zAX.cfg N) (fnBody Try.f15) := loopsL (l := []) (by kernel_rfl) trivial
theorem zAX.b (N : Nat) (x0 : den s80) : body (zAX.cfg N) N Try.f15 [.one] [.io] [(false, (.pr (.own .imm) .imm))] [⟨s80, .imm, x0⟩] (fun r i => some (r, i)) = bindO (zAX N x0) fun r => some ([⟨s24, (.pr (.own .imm) .imm), r.1⟩], [⟨s80, .imm, r.2⟩]) := by
  show _ = bindF _ _
  conv => rhs; simp only [zAX, bindF_ifB, bindF_bindO, bindF_pure, bindF_none, bindF_onSum]
  kernel_rfl
theorem zAX.ok (N : Nat) : ConOk Try.prog 15 [.one] (zAX.con N) := ok1 (g := zAX.cfg N) (N := N) (res := [(false, (.pr (.own .imm) .imm))]) tys_ok (zAX.cons N) mixed Try.func15 (zAX.ls N) rfl (zAX.b N)
theorem zAX.det (N : Nat) : ConDet (zAX.con N) := det1
def zAR.con (N : Nat) : Con := { modes := [.io], ptrs := [false], fn := fn1 s80 .imm (zAR N) (fun r => [⟨(.int .i64), .imm, r.1⟩]) (fun r => [⟨s80, .imm, r.2⟩]) }
def zAR.cfg (N : Nat) : Cfg := { ty := tys, keep := [4, 7, 11], flt := [], elm := elm0, live := [], ord := [], con := [((17, [.one, .one]), zAH.con N), ((16, [.one, .one]), zAB.con N)], loops := [], joins := [] }
theorem zAR.cons (N : Nat) : ConsOk Try.prog (zAR.cfg N).con := (consOk_cons (hb17) (zAH.ok N) (zAH.det N) (consOk_cons (hb16) (zAB.ok N) (zAB.det N) consOk_nil))
theorem zAR.ls (N : Nat) : LoopsOk Try.prog (zAR.cfg N) (fnBody Try.f18) := loopsL (l := []) (by kernel_rfl) trivial
theorem zAR.b (N : Nat) (x0 : den s80) : body (zAR.cfg N) N Try.f18 [.one] [.io] [(false, .imm)] [⟨s80, .imm, x0⟩] (fun r i => some (r, i)) = bindO (zAR N x0) fun r => some ([⟨(.int .i64), .imm, r.1⟩], [⟨s80, .imm, r.2⟩]) := by
  show _ = bindF _ _
  conv => rhs; simp only [zAR, bindF_ifB, bindF_bindO, bindF_pure, bindF_none, bindF_onSum]
  kernel_rfl
theorem zAR.ok (N : Nat) : ConOk Try.prog 18 [.one] (zAR.con N) := ok1 (g := zAR.cfg N) (N := N) (res := [(false, .imm)]) tys_ok (zAR.cons N) mixed Try.func18 (zAR.ls N) rfl (zAR.b N)
theorem zAR.det (N : Nat) : ConDet (zAR.con N) := det1
def zB6.con (N : Nat) : Con := { modes := [.v], ptrs := [false, false, false, false, false], fn := fn1 s22 .imm (zB6 N) (fun r => [⟨s23, (.own .imm), r.1⟩, ⟨s24, (.pr (.own .imm) .imm), r.2.1⟩, ⟨.bool, .imm, r.2.2.1⟩, ⟨(.int .i64), .imm, r.2.2.2.1⟩, ⟨(.int .i64), .imm, r.2.2.2.2⟩]) (fun r => []) }
def zB6.cfg (N : Nat) : Cfg := { ty := tys, keep := [12, 14, 16, 18, 21, 24, 30, 33], flt := [], elm := elm0, live := [], ord := [(7, [0, 1, 2, 4, 5, 3, 6, 7, 8, 9, 10, 11])], con := [((13, [.one]), zAE.con N), ((14, [.one]), zAN.con N), ((15, [.one]), zAX.con N), ((16, [.one, .one]), zAB.con N), ((17, [.one, .one]), zAH.con N), ((18, [.one]), zAR.con N)], loops := [], joins := [] }
theorem zB6.cons (N : Nat) : ConsOk Try.prog (zB6.cfg N).con := (consOk_cons (hb13) (zAE.ok N) (zAE.det N) (consOk_cons (hb14) (zAN.ok N) (zAN.det N) (consOk_cons (hb15) (zAX.ok N) (zAX.det N) (consOk_cons (hb16) (zAB.ok N) (zAB.det N) (consOk_cons (hb17) (zAH.ok N) (zAH.det N) (consOk_cons (hb18) (zAR.ok N) (zAR.det N) consOk_nil))))))
theorem zB6.ls (N : Nat) : LoopsOk Try.prog (zB6.cfg N) (fnBody Try.f4) := loopsL (l := []) (by kernel_rfl) trivial
theorem zB6.b (N : Nat) (x0 : den s22) : body (zB6.cfg N) N Try.f4 [.one] [.v] [(false, (.own .imm)), (false, (.pr (.own .imm) .imm)), (false, .imm), (false, .imm), (false, .imm)] [⟨s22, .imm, x0⟩] (fun r i => some (r, i)) = bindO (zB6 N x0) fun r => some ([⟨s23, (.own .imm), r.1⟩, ⟨s24, (.pr (.own .imm) .imm), r.2.1⟩, ⟨.bool, .imm, r.2.2.1⟩, ⟨(.int .i64), .imm, r.2.2.2.1⟩, ⟨(.int .i64), .imm, r.2.2.2.2⟩], []) := by
  show _ = bindF _ _
  conv => rhs; simp only [zB6, bindF_ifB, bindF_bindO, bindF_pure, bindF_none, bindF_onSum]
  kernel_rfl
theorem zB6.ok (N : Nat) : ConOk Try.prog 4 [.one] (zB6.con N) := ok1 (g := zB6.cfg N) (N := N) (res := [(false, (.own .imm)), (false, (.pr (.own .imm) .imm)), (false, .imm), (false, .imm), (false, .imm)]) tys_ok (zB6.cons N) mixed Try.func4 (zB6.ls N) rfl (zB6.b N)
theorem zB6.det (N : Nat) : ConDet (zB6.con N) := det1
def zB7.con (N : Nat) : Con := { modes := [.v], ptrs := [false], fn := fn1 (.int .i64) .imm (zB7 N) (fun r => [⟨.bool, .imm, r⟩]) (fun r => []) }
def zB7.cfg (N : Nat) : Cfg := { ty := tys, keep := [], flt := [], elm := elm0, live := [], ord := [], con := [], loops := [], joins := [] }
theorem zB7.cons (N : Nat) : ConsOk Try.prog (zB7.cfg N).con := consOk_nil
theorem zB7.ls (N : Nat) : LoopsOk Try.prog (zB7.cfg N) (fnBody Try.f41) := loopsL (l := []) (by kernel_rfl) trivial
theorem zB7.b (N : Nat) (x0 : den (.int .i64)) : body (zB7.cfg N) N Try.f41 [.one] [.v] [(false, .imm)] [⟨(.int .i64), .imm, x0⟩] (fun r i => some (r, i)) = bindO (zB7 N x0) fun r => some ([⟨.bool, .imm, r⟩], []) := by
  show _ = bindF _ _
  conv => rhs; simp only [zB7, bindF_ifB, bindF_bindO, bindF_pure, bindF_none, bindF_onSum]
  kernel_rfl
theorem zB7.ok (N : Nat) : ConOk Try.prog 41 [.one] (zB7.con N) := ok1 (g := zB7.cfg N) (N := N) (res := [(false, .imm)]) tys_ok (zB7.cons N) mixed Try.func41 (zB7.ls N) rfl (zB7.b N)
theorem zB7.det (N : Nat) : ConDet (zB7.con N) := det1
def zA7.sk4 : Skel := ⟨.pv s23 :: (dd 2 (.pv (.int .i64) :: (dd 15 []))), []⟩
def zA7.xs4 : List XS := [⟨.exit 0, [], ⟨dd 19 [], []⟩⟩, ⟨.ret, [2], ⟨dd 2 (.pv .bool :: (dd 16 [])), []⟩⟩]
def zA7.con (N : Nat) : Con := { modes := [.v], ptrs := [false], fn := fn1 s23 .imm (zA7 N) (fun r => [⟨.bool, .imm, r⟩]) (fun r => []) }
def zA7.cfg (N : Nat) : Cfg := { ty := tys, keep := [17], flt := [], elm := elm0, live := [(4, [0, 3])], ord := [], con := [((41, [.one]), zB7.con N)], loops := [(4, loopCon N zA7.sk4 zA7.xs4 (fun {R} => zA7.l4 (R := R) N))], joins := [] }
theorem zA7.cons (N : Nat) : ConsOk Try.prog (zA7.cfg N).con := (consOk_cons (hb41) (zB7.ok N) (zB7.det N) consOk_nil)
theorem zA7.h4 {R : Type} (N : Nat) (d : zA7.sk4.D) (kn : zA7.sk4.D → Option R) (kx : XD zA7.xs4 → Option R) : roundK (zA7.cfg N) N (nthLoop (fnBody Try.f19) 0) zA7.sk4 zA7.xs4 d kn kx = zA7.l4 N d kn kx := by kernel_rfl
theorem zA7.i4 (N : Nat) : LoopsOk Try.prog (zA7.cfg N) (nthLoop (fnBody Try.f19) 0) := loopsL (l := []) (by kernel_rfl) trivial
theorem zA7.o4 (N : Nat) : LoopOk Try.prog (nthLoop (fnBody Try.f19) 0) (loopCon N zA7.sk4 zA7.xs4 (fun {R} => zA7.l4 (R := R) N)) := loop_ok (g := zA7.cfg N) tys_ok (zA7.cons N) mixed (zA7.i4 N) (fun d kn kx => zA7.h4 N d kn kx)
theorem zA7.ls (N : Nat) : LoopsOk Try.prog (zA7.cfg N) (fnBody Try.f19) := loopsL (l := [nthLoop (fnBody Try.f19) 0]) (by kernel_rfl) ⟨loopOne (L0 := loopCon N zA7.sk4 zA7.xs4 (fun {R} => zA7.l4 (R := R) N)) (id := 4) (by kernel_rfl) (by kernel_rfl) (zA7.o4 N), trivial⟩
theorem zA7.q4 {R R' : Type} {N n : Nat} {d} {k} {g : R → Option R'} : bindF (loopP (zA7.l4 N) n d k) g = loopP (zA7.l4 N) n d fun e => bindF (k e) g := bindF_loopP (fun d kn kx => by simp only [zA7.l4, bindF_ifB, bindF_bindO, bindF_pure, bindF_none, bindF_onSum]) n d k
theorem zA7.b (N : Nat) (x0 : den s23) : body (zA7.cfg N) N Try.f19 [.one] [.v] [(false, .imm)] [⟨s23, .imm, x0⟩] (fun r i => some (r, i)) = bindO (zA7 N x0) fun r => some ([⟨.bool, .imm, r⟩], []) := by
  show _ = bindF _ _
  conv => rhs; simp only [zA7, bindF_ifB, bindF_bindO, bindF_pure, bindF_none, bindF_onSum, zA7.q4]
  kernel_rfl
theorem zA7.ok (N : Nat) : ConOk Try.prog 19 [.one] (zA7.con N) := ok1 (g := zA7.cfg N) (N := N) (res := [(false, .imm)]) tys_ok (zA7.cons N) mixed Try.func19 (zA7.ls N) rfl (zA7.b N)
theorem zA7.det (N : Nat) : ConDet (zA7.con N) := det1
def zBC.con (N : Nat) : Con := { modes := [.v], ptrs := [false], fn := fn1 s24 .imm (zBC N) (fun r => [⟨.bool, .imm, r⟩]) (fun r => []) }
def zBC.cfg (N : Nat) : Cfg := { ty := tys, keep := [9], flt := [], elm := elm0, live := [], ord := [], con := [((19, [.one]), zA7.con N)], loops := [], joins := [] }
theorem zBC.cons (N : Nat) : ConsOk Try.prog (zBC.cfg N).con := (consOk_cons (hb19) (zA7.ok N) (zA7.det N) consOk_nil)
theorem zBC.ls (N : Nat) : LoopsOk Try.prog (zBC.cfg N) (fnBody Try.f20) := loopsL (l := []) (by kernel_rfl) trivial
theorem zBC.b (N : Nat) (x0 : den s24) : body (zBC.cfg N) N Try.f20 [.one] [.v] [(false, .imm)] [⟨s24, .imm, x0⟩] (fun r i => some (r, i)) = bindO (zBC N x0) fun r => some ([⟨.bool, .imm, r⟩], []) := by
  show _ = bindF _ _
  conv => rhs; simp only [zBC, bindF_ifB, bindF_bindO, bindF_pure, bindF_none, bindF_onSum]
  kernel_rfl
theorem zBC.ok (N : Nat) : ConOk Try.prog 20 [.one] (zBC.con N) := ok1 (g := zBC.cfg N) (N := N) (res := [(false, .imm)]) tys_ok (zBC.cons N) mixed Try.func20 (zBC.ls N) rfl (zBC.b N)
theorem zBC.det (N : Nat) : ConDet (zBC.con N) := det1
end Go.AE.F
end
