/- The printed functions are what the program comes to: contracts. -/
import Derived.Test.YtliimhlefbnamaaLRingL0
noncomputable section
namespace Go.AE.F
open Go.AE Go.Proofs
set_option maxRecDepth 100000
def spec_l01Copy.con (N : Nat) : Con := { modes := [.v], ptrs := [false], fn := fn1 s26 .imm (spec_l01Copy N) (fun r => [⟨s26, (.own .imm), r⟩]) (fun r => []) }
def spec_l01Copy.cfg (N : Nat) : Cfg := { ty := tys, keep := [], flt := [], elm := elm0, live := [], ord := [], con := [], loops := [], joins := [] }
theorem spec_l01Copy.cons (N : Nat) : ConsOk Try.prog (spec_l01Copy.cfg N).con := consOk_nil
theorem spec_l01Copy.ls (N : Nat) : LoopsOk Try.prog (spec_l01Copy.cfg N) (fnBody Try.f19) := loopsL (l := []) (by kernel_rfl) trivial
theorem spec_l01Copy.b (N : Nat) (x0 : den s26) : body (spec_l01Copy.cfg N) N Try.f19 [.one] [.v] [(false, (.own .imm))] [⟨s26, .imm, x0⟩] (fun r i => some (r, i)) = bindO (spec_l01Copy N x0) fun r => some ([⟨s26, (.own .imm), r⟩], []) := by
  show _ = bindF _ _
  conv => rhs; simp only [spec_l01Copy, bindF_ifB, bindF_bindO, bindF_pure, bindF_none, bindF_onSum]
  kernel_rfl
theorem spec_l01Copy.ok (N : Nat) : ConOk Try.prog 19 [.one] (spec_l01Copy.con N) := ok1 (g := spec_l01Copy.cfg N) (N := N) (res := [(false, (.own .imm))]) tys_ok (spec_l01Copy.cons N) mixed Try.func19 (spec_l01Copy.ls N) rfl (spec_l01Copy.b N)
theorem spec_l01Copy.det (N : Nat) : ConDet (spec_l01Copy.con N) := det1
def spec_l04CopyAll.sk3 : Skel := ⟨.pv s23 :: (dd 2 (.ov 50 [] :: (.pv (.int .i64) :: (dd 16 [])))), [⟨50, s23, (.own (.own .imm)), false, false⟩]⟩
def spec_l04CopyAll.xs3 : List XS := [⟨.exit 0, [3], ⟨dd 3 (.ov 50 [] :: (dd 17 [])), [⟨50, s23, (.own (.own .imm)), false, false⟩]⟩⟩]
def spec_l04CopyAll.con (N : Nat) : Con := { modes := [.v], ptrs := [false], fn := fn1 s23 .imm (spec_l04CopyAll N) (fun r => [⟨s23, (.own (.own .imm)), r⟩]) (fun r => []) }
def spec_l04CopyAll.cfg (N : Nat) : Cfg := { ty := tys, keep := [17], flt := [], elm := elm0, live := [(3, [0, 3, 4])], ord := [], con := [((19, [.one]), spec_l01Copy.con N)], loops := [(3, loopCon N spec_l04CopyAll.sk3 spec_l04CopyAll.xs3 (fun {R} => spec_l04CopyAll.l3 (R := R) N))], joins := [] }
theorem spec_l04CopyAll.cons (N : Nat) : ConsOk Try.prog (spec_l04CopyAll.cfg N).con := (consOk_cons (hb19) (spec_l01Copy.ok N) (spec_l01Copy.det N) consOk_nil)
theorem spec_l04CopyAll.h3 {R : Type} (N : Nat) (d : spec_l04CopyAll.sk3.D) (kn : spec_l04CopyAll.sk3.D → Option R) (kx : XD spec_l04CopyAll.xs3 → Option R) : roundK (spec_l04CopyAll.cfg N) N (nthLoop (fnBody Try.f20) 0) spec_l04CopyAll.sk3 spec_l04CopyAll.xs3 d kn kx = spec_l04CopyAll.l3 N d kn kx := by kernel_rfl
theorem spec_l04CopyAll.i3 (N : Nat) : LoopsOk Try.prog (spec_l04CopyAll.cfg N) (nthLoop (fnBody Try.f20) 0) := loopsL (l := []) (by kernel_rfl) trivial
theorem spec_l04CopyAll.o3 (N : Nat) : LoopOk Try.prog (nthLoop (fnBody Try.f20) 0) (loopCon N spec_l04CopyAll.sk3 spec_l04CopyAll.xs3 (fun {R} => spec_l04CopyAll.l3 (R := R) N)) := loop_ok (g := spec_l04CopyAll.cfg N) tys_ok (spec_l04CopyAll.cons N) mixed (spec_l04CopyAll.i3 N) (fun d kn kx => spec_l04CopyAll.h3 N d kn kx)
theorem spec_l04CopyAll.ls (N : Nat) : LoopsOk Try.prog (spec_l04CopyAll.cfg N) (fnBody Try.f20) := loopsL (l := [nthLoop (fnBody Try.f20) 0]) (by kernel_rfl) ⟨loopOne (L0 := loopCon N spec_l04CopyAll.sk3 spec_l04CopyAll.xs3 (fun {R} => spec_l04CopyAll.l3 (R := R) N)) (id := 3) (by kernel_rfl) (by kernel_rfl) (spec_l04CopyAll.o3 N), trivial⟩
theorem spec_l04CopyAll.q3 {R R' : Type} {N n : Nat} {d} {k} {g : R → Option R'} : bindF (loopP (spec_l04CopyAll.l3 N) n d k) g = loopP (spec_l04CopyAll.l3 N) n d fun e => bindF (k e) g := bindF_loopP (fun d kn kx => by simp only [spec_l04CopyAll.l3, bindF_ifB, bindF_bindO, bindF_pure, bindF_none, bindF_onSum]) n d k
theorem spec_l04CopyAll.b (N : Nat) (x0 : den s23) : body (spec_l04CopyAll.cfg N) N Try.f20 [.one] [.v] [(false, (.own (.own .imm)))] [⟨s23, .imm, x0⟩] (fun r i => some (r, i)) = bindO (spec_l04CopyAll N x0) fun r => some ([⟨s23, (.own (.own .imm)), r⟩], []) := by
  show _ = bindF _ _
  conv => rhs; simp only [spec_l04CopyAll, bindF_ifB, bindF_bindO, bindF_pure, bindF_none, bindF_onSum, spec_l04CopyAll.q3]
  kernel_rfl
theorem spec_l04CopyAll.ok (N : Nat) : ConOk Try.prog 20 [.one] (spec_l04CopyAll.con N) := ok1 (g := spec_l04CopyAll.cfg N) (N := N) (res := [(false, (.own (.own .imm)))]) tys_ok (spec_l04CopyAll.cons N) mixed Try.func20 (spec_l04CopyAll.ls N) rfl (spec_l04CopyAll.b N)
theorem spec_l04CopyAll.det (N : Nat) : ConDet (spec_l04CopyAll.con N) := det1
def spec_l04Copy.con (N : Nat) : Con := { modes := [.v], ptrs := [false], fn := fn1 s24 .imm (spec_l04Copy N) (fun r => [⟨s24, (.pr (.own (.own .imm)) .imm), r⟩]) (fun r => []) }
def spec_l04Copy.cfg (N : Nat) : Cfg := { ty := tys, keep := [5], flt := [], elm := elm0, live := [], ord := [(1, [0, 1, 3, 4, 2, 5, 6])], con := [((20, [.one]), spec_l04CopyAll.con N)], loops := [], joins := [] }
theorem spec_l04Copy.cons (N : Nat) : ConsOk Try.prog (spec_l04Copy.cfg N).con := (consOk_cons (hb20) (spec_l04CopyAll.ok N) (spec_l04CopyAll.det N) consOk_nil)
theorem spec_l04Copy.ls (N : Nat) : LoopsOk Try.prog (spec_l04Copy.cfg N) (fnBody Try.f18) := loopsL (l := []) (by kernel_rfl) trivial
theorem spec_l04Copy.b (N : Nat) (x0 : den s24) : body (spec_l04Copy.cfg N) N Try.f18 [.one] [.v] [(false, (.pr (.own (.own .imm)) .imm))] [⟨s24, .imm, x0⟩] (fun r i => some (r, i)) = bindO (spec_l04Copy N x0) fun r => some ([⟨s24, (.pr (.own (.own .imm)) .imm), r⟩], []) := by
  show _ = bindF _ _
  conv => rhs; simp only [spec_l04Copy, bindF_ifB, bindF_bindO, bindF_pure, bindF_none, bindF_onSum]
  kernel_rfl
theorem spec_l04Copy.ok (N : Nat) : ConOk Try.prog 18 [.one] (spec_l04Copy.con N) := ok1 (g := spec_l04Copy.cfg N) (N := N) (res := [(false, (.pr (.own (.own .imm)) .imm))]) tys_ok (spec_l04Copy.cons N) mixed Try.func18 (spec_l04Copy.ls N) rfl (spec_l04Copy.b N)
theorem spec_l04Copy.det (N : Nat) : ConDet (spec_l04Copy.con N) := det1
def spec_RingPush.con (N : Nat) : Con := { modes := [.v, .v], ptrs := [false], fn := fn2 s24 .imm s26 .imm (spec_RingPush N) (fun r => [⟨s24, (.pr (.own (.own .imm)) .imm), r⟩]) (fun r => []) }
def spec_RingPush.cfg (N : Nat) : Cfg := { ty := tys, keep := [11, 15, 24, 26, 30], flt := [], elm := elm0, live := [], ord := [(5, [8, 0, 3, 4, 1, 2, 5, 6, 7, 9])], con := [((9, [.one]), spec_RingRight.con N), ((10, [.one]), spec_PointsRight.con N), ((18, [.one]), spec_l04Copy.con N), ((19, [.one]), spec_l01Copy.con N), ((20, [.one]), spec_l04CopyAll.con N)], loops := [], joins := [] }
theorem spec_RingPush.cons (N : Nat) : ConsOk Try.prog (spec_RingPush.cfg N).con := (consOk_cons (hb9) (spec_RingRight.ok N) (spec_RingRight.det N) (consOk_cons (hb10) (spec_PointsRight.ok N) (spec_PointsRight.det N) (consOk_cons (hb18) (spec_l04Copy.ok N) (spec_l04Copy.det N) (consOk_cons (hb19) (spec_l01Copy.ok N) (spec_l01Copy.det N) (consOk_cons (hb20) (spec_l04CopyAll.ok N) (spec_l04CopyAll.det N) consOk_nil)))))
theorem spec_RingPush.ls (N : Nat) : LoopsOk Try.prog (spec_RingPush.cfg N) (fnBody Try.f5) := loopsL (l := []) (by kernel_rfl) trivial
theorem spec_RingPush.b (N : Nat) (x0 : den s24) (x1 : den s26) : body (spec_RingPush.cfg N) N Try.f5 [.one, .one] [.v, .v] [(false, (.pr (.own (.own .imm)) .imm))] [⟨s24, .imm, x0⟩, ⟨s26, .imm, x1⟩] (fun r i => some (r, i)) = bindO (spec_RingPush N x0 x1) fun r => some ([⟨s24, (.pr (.own (.own .imm)) .imm), r⟩], []) := by
  show _ = bindF _ _
  conv => rhs; simp only [spec_RingPush, bindF_ifB, bindF_bindO, bindF_pure, bindF_none, bindF_onSum]
  kernel_rfl
theorem spec_RingPush.ok (N : Nat) : ConOk Try.prog 5 [.one, .one] (spec_RingPush.con N) := ok2 (g := spec_RingPush.cfg N) (N := N) (res := [(false, (.pr (.own (.own .imm)) .imm))]) tys_ok (spec_RingPush.cons N) mixed Try.func5 (spec_RingPush.ls N) rfl (spec_RingPush.b N)
theorem spec_RingPush.det (N : Nat) : ConDet (spec_RingPush.con N) := det2
def laws_lwCopy.con (N : Nat) : Con := { modes := [.v], ptrs := [false], fn := fn1 s26 .imm (laws_lwCopy N) (fun r => [⟨s26, (.own .imm), r⟩]) (fun r => []) }
def laws_lwCopy.cfg (N : Nat) : Cfg := { ty := tys, keep := [], flt := [], elm := elm0, live := [], ord := [], con := [], loops := [], joins := [] }
theorem laws_lwCopy.cons (N : Nat) : ConsOk Try.prog (laws_lwCopy.cfg N).con := consOk_nil
theorem laws_lwCopy.ls (N : Nat) : LoopsOk Try.prog (laws_lwCopy.cfg N) (fnBody Try.f7) := loopsL (l := []) (by kernel_rfl) trivial
theorem laws_lwCopy.b (N : Nat) (x0 : den s26) : body (laws_lwCopy.cfg N) N Try.f7 [.one] [.v] [(false, (.own .imm))] [⟨s26, .imm, x0⟩] (fun r i => some (r, i)) = bindO (laws_lwCopy N x0) fun r => some ([⟨s26, (.own .imm), r⟩], []) := by
  show _ = bindF _ _
  conv => rhs; simp only [laws_lwCopy, bindF_ifB, bindF_bindO, bindF_pure, bindF_none, bindF_onSum]
  kernel_rfl
theorem laws_lwCopy.ok (N : Nat) : ConOk Try.prog 7 [.one] (laws_lwCopy.con N) := ok1 (g := laws_lwCopy.cfg N) (N := N) (res := [(false, (.own .imm))]) tys_ok (laws_lwCopy.cons N) mixed Try.func7 (laws_lwCopy.ls N) rfl (laws_lwCopy.b N)
theorem laws_lwCopy.det (N : Nat) : ConDet (laws_lwCopy.con N) := det1
def impl_isMany.con (N : Nat) : Con := { modes := [.v], ptrs := [false], fn := fn1 (.int .i64) .imm (impl_isMany N) (fun r => [⟨.bool, .imm, r⟩]) (fun r => []) }
def impl_isMany.cfg (N : Nat) : Cfg := { ty := tys, keep := [], flt := [], elm := elm0, live := [], ord := [], con := [], loops := [], joins := [] }
theorem impl_isMany.cons (N : Nat) : ConsOk Try.prog (impl_isMany.cfg N).con := consOk_nil
theorem impl_isMany.ls (N : Nat) : LoopsOk Try.prog (impl_isMany.cfg N) (fnBody Try.f21) := loopsL (l := []) (by kernel_rfl) trivial
theorem impl_isMany.b (N : Nat) (x0 : den (.int .i64)) : body (impl_isMany.cfg N) N Try.f21 [.one] [.v] [(false, .imm)] [⟨(.int .i64), .imm, x0⟩] (fun r i => some (r, i)) = bindO (impl_isMany N x0) fun r => some ([⟨.bool, .imm, r⟩], []) := by
  show _ = bindF _ _
  conv => rhs; simp only [impl_isMany, bindF_ifB, bindF_bindO, bindF_pure, bindF_none, bindF_onSum]
  kernel_rfl
theorem impl_isMany.ok (N : Nat) : ConOk Try.prog 21 [.one] (impl_isMany.con N) := ok1 (g := impl_isMany.cfg N) (N := N) (res := [(false, .imm)]) tys_ok (impl_isMany.cons N) mixed Try.func21 (impl_isMany.ls N) rfl (impl_isMany.b N)
theorem impl_isMany.det (N : Nat) : ConDet (impl_isMany.con N) := det1
def impl_within.con (N : Nat) : Con := { modes := [.v, .v, .v], ptrs := [false], fn := fn3 (.int .i64) .imm (.int .i64) .imm (.int .i64) .imm (impl_within N) (fun r => [⟨.bool, .imm, r⟩]) (fun r => []) }
def impl_within.cfg (N : Nat) : Cfg := { ty := tys, keep := [], flt := [], elm := elm0, live := [], ord := [], con := [], loops := [], joins := [] }
theorem impl_within.cons (N : Nat) : ConsOk Try.prog (impl_within.cfg N).con := consOk_nil
theorem impl_within.ls (N : Nat) : LoopsOk Try.prog (impl_within.cfg N) (fnBody Try.f29) := loopsL (l := []) (by kernel_rfl) trivial
theorem impl_within.b (N : Nat) (x0 : den (.int .i64)) (x1 : den (.int .i64)) (x2 : den (.int .i64)) : body (impl_within.cfg N) N Try.f29 [.one, .one, .one] [.v, .v, .v] [(false, .imm)] [⟨(.int .i64), .imm, x0⟩, ⟨(.int .i64), .imm, x1⟩, ⟨(.int .i64), .imm, x2⟩] (fun r i => some (r, i)) = bindO (impl_within N x0 x1 x2) fun r => some ([⟨.bool, .imm, r⟩], []) := by
  show _ = bindF _ _
  conv => rhs; simp only [impl_within, bindF_ifB, bindF_bindO, bindF_pure, bindF_none, bindF_onSum]
  kernel_rfl
theorem impl_within.ok (N : Nat) : ConOk Try.prog 29 [.one, .one, .one] (impl_within.con N) := ok3 (g := impl_within.cfg N) (N := N) (res := [(false, .imm)]) tys_ok (impl_within.cons N) mixed Try.func29 (impl_within.ls N) rfl (impl_within.b N)
theorem impl_within.det (N : Nat) : ConDet (impl_within.con N) := det3
def impl_isPoint.con (N : Nat) : Con := { modes := [.v], ptrs := [false], fn := fn1 (.int .i64) .imm (impl_isPoint N) (fun r => [⟨.bool, .imm, r⟩]) (fun r => []) }
def impl_isPoint.cfg (N : Nat) : Cfg := { ty := tys, keep := [4, 7], flt := [], elm := elm0, live := [], ord := [], con := [((29, [.one, .one, .one]), impl_within.con N)], loops := [], joins := [] }
theorem impl_isPoint.cons (N : Nat) : ConsOk Try.prog (impl_isPoint.cfg N).con := (consOk_cons (hb29) (impl_within.ok N) (impl_within.det N) consOk_nil)
theorem impl_isPoint.ls (N : Nat) : LoopsOk Try.prog (impl_isPoint.cfg N) (fnBody Try.f43) := loopsL (l := []) (by kernel_rfl) trivial
theorem impl_isPoint.b (N : Nat) (x0 : den (.int .i64)) : body (impl_isPoint.cfg N) N Try.f43 [.one] [.v] [(false, .imm)] [⟨(.int .i64), .imm, x0⟩] (fun r i => some (r, i)) = bindO (impl_isPoint N x0) fun r => some ([⟨.bool, .imm, r⟩], []) := by
  show _ = bindF _ _
  conv => rhs; simp only [impl_isPoint, bindF_ifB, bindF_bindO, bindF_pure, bindF_none, bindF_onSum]
  kernel_rfl
theorem impl_isPoint.ok (N : Nat) : ConOk Try.prog 43 [.one] (impl_isPoint.con N) := ok1 (g := impl_isPoint.cfg N) (N := N) (res := [(false, .imm)]) tys_ok (impl_isPoint.cons N) mixed Try.func43 (impl_isPoint.ls N) rfl (impl_isPoint.b N)
theorem impl_isPoint.det (N : Nat) : ConDet (impl_isPoint.con N) := det1
def impl_PointsRight_c1.con (N : Nat) : Con := { modes := [.v], ptrs := [false], fn := fn1 (.int .i64) .imm (impl_PointsRight_c1 N) (fun r => [⟨.bool, .imm, r⟩]) (fun r => []) }
def impl_PointsRight_c1.cfg (N : Nat) : Cfg := { ty := tys, keep := [4], flt := [], elm := elm0, live := [], ord := [], con := [((43, [.one]), impl_isPoint.con N)], loops := [], joins := [] }
theorem impl_PointsRight_c1.cons (N : Nat) : ConsOk Try.prog (impl_PointsRight_c1.cfg N).con := (consOk_cons (hb43) (impl_isPoint.ok N) (impl_isPoint.det N) consOk_nil)
theorem impl_PointsRight_c1.ls (N : Nat) : LoopsOk Try.prog (impl_PointsRight_c1.cfg N) (fnBody Try.f42) := loopsL (l := []) (by kernel_rfl) trivial
theorem impl_PointsRight_c1.b (N : Nat) (x0 : den (.int .i64)) : body (impl_PointsRight_c1.cfg N) N Try.f42 [.one] [.v] [(false, .imm)] [⟨(.int .i64), .imm, x0⟩] (fun r i => some (r, i)) = bindO (impl_PointsRight_c1 N x0) fun r => some ([⟨.bool, .imm, r⟩], []) := by
  show _ = bindF _ _
  conv => rhs; simp only [impl_PointsRight_c1, bindF_ifB, bindF_bindO, bindF_pure, bindF_none, bindF_onSum]
  kernel_rfl
theorem impl_PointsRight_c1.ok (N : Nat) : ConOk Try.prog 42 [.one] (impl_PointsRight_c1.con N) := ok1 (g := impl_PointsRight_c1.cfg N) (N := N) (res := [(false, .imm)]) tys_ok (impl_PointsRight_c1.cons N) mixed Try.func42 (impl_PointsRight_c1.ls N) rfl (impl_PointsRight_c1.b N)
theorem impl_PointsRight_c1.det (N : Nat) : ConDet (impl_PointsRight_c1.con N) := det1
def slices_IndexFunc_Sint64_int64__impl_PointsRight_c1.sk2 : Skel := ⟨.pv s26 :: (.fn 42 [] :: (dd 5 (.pv (.int .i64) :: (.pv (.int .i64) :: (dd 10 []))))), []⟩
def slices_IndexFunc_Sint64_int64__impl_PointsRight_c1.xs2 : List XS := [⟨.exit 0, [], ⟨dd 19 [], []⟩⟩, ⟨.ret, [4], ⟨dd 4 (.pv (.int .i64) :: (dd 14 [])), []⟩⟩]
def slices_IndexFunc_Sint64_int64__impl_PointsRight_c1.con (N : Nat) : Con := { modes := [.v], ptrs := [false], fn := fn1 s26 .imm (slices_IndexFunc_Sint64_int64__impl_PointsRight_c1 N) (fun r => [⟨(.int .i64), .imm, r⟩]) (fun r => []) }
def slices_IndexFunc_Sint64_int64__impl_PointsRight_c1.cfg (N : Nat) : Cfg := { ty := tys, keep := [16], flt := [], elm := elm0, live := [(2, [0, 1, 7, 8])], ord := [], con := [((42, [.one]), impl_PointsRight_c1.con N)], loops := [(2, loopCon N slices_IndexFunc_Sint64_int64__impl_PointsRight_c1.sk2 slices_IndexFunc_Sint64_int64__impl_PointsRight_c1.xs2 (fun {R} => slices_IndexFunc_Sint64_int64__impl_PointsRight_c1.l2 (R := R) N))], joins := [] }
theorem slices_IndexFunc_Sint64_int64__impl_PointsRight_c1.cons (N : Nat) : ConsOk Try.prog (slices_IndexFunc_Sint64_int64__impl_PointsRight_c1.cfg N).con := (consOk_cons (hb42) (impl_PointsRight_c1.ok N) (impl_PointsRight_c1.det N) consOk_nil)
theorem slices_IndexFunc_Sint64_int64__impl_PointsRight_c1.h2 {R : Type} (N : Nat) (d : slices_IndexFunc_Sint64_int64__impl_PointsRight_c1.sk2.D) (kn : slices_IndexFunc_Sint64_int64__impl_PointsRight_c1.sk2.D → Option R) (kx : XD slices_IndexFunc_Sint64_int64__impl_PointsRight_c1.xs2 → Option R) : roundK (slices_IndexFunc_Sint64_int64__impl_PointsRight_c1.cfg N) N (nthLoop (fnBody Try.f47) 0) slices_IndexFunc_Sint64_int64__impl_PointsRight_c1.sk2 slices_IndexFunc_Sint64_int64__impl_PointsRight_c1.xs2 d kn kx = slices_IndexFunc_Sint64_int64__impl_PointsRight_c1.l2 N d kn kx := by kernel_rfl
theorem slices_IndexFunc_Sint64_int64__impl_PointsRight_c1.i2 (N : Nat) : LoopsOk Try.prog (slices_IndexFunc_Sint64_int64__impl_PointsRight_c1.cfg N) (nthLoop (fnBody Try.f47) 0) := loopsL (l := []) (by kernel_rfl) trivial
theorem slices_IndexFunc_Sint64_int64__impl_PointsRight_c1.o2 (N : Nat) : LoopOk Try.prog (nthLoop (fnBody Try.f47) 0) (loopCon N slices_IndexFunc_Sint64_int64__impl_PointsRight_c1.sk2 slices_IndexFunc_Sint64_int64__impl_PointsRight_c1.xs2 (fun {R} => slices_IndexFunc_Sint64_int64__impl_PointsRight_c1.l2 (R := R) N)) := loop_ok (g := slices_IndexFunc_Sint64_int64__impl_PointsRight_c1.cfg N) tys_ok (slices_IndexFunc_Sint64_int64__impl_PointsRight_c1.cons N) mixed (slices_IndexFunc_Sint64_int64__impl_PointsRight_c1.i2 N) (fun d kn kx => slices_IndexFunc_Sint64_int64__impl_PointsRight_c1.h2 N d kn kx)
theorem slices_IndexFunc_Sint64_int64__impl_PointsRight_c1.ls (N : Nat) : LoopsOk Try.prog (slices_IndexFunc_Sint64_int64__impl_PointsRight_c1.cfg N) (fnBody Try.f47) := loopsL (l := [nthLoop (fnBody Try.f47) 0]) (by kernel_rfl) ⟨loopOne (L0 := loopCon N slices_IndexFunc_Sint64_int64__impl_PointsRight_c1.sk2 slices_IndexFunc_Sint64_int64__impl_PointsRight_c1.xs2 (fun {R} => slices_IndexFunc_Sint64_int64__impl_PointsRight_c1.l2 (R := R) N)) (id := 2) (by kernel_rfl) (by kernel_rfl) (slices_IndexFunc_Sint64_int64__impl_PointsRight_c1.o2 N), trivial⟩
theorem slices_IndexFunc_Sint64_int64__impl_PointsRight_c1.q2 {R R' : Type} {N n : Nat} {d} {k} {g : R → Option R'} : bindF (loopP (slices_IndexFunc_Sint64_int64__impl_PointsRight_c1.l2 N) n d k) g = loopP (slices_IndexFunc_Sint64_int64__impl_PointsRight_c1.l2 N) n d fun e => bindF (k e) g := bindF_loopP (fun d kn kx => by simp only [slices_IndexFunc_Sint64_int64__impl_PointsRight_c1.l2, bindF_ifB, bindF_bindO, bindF_pure, bindF_none, bindF_onSum]) n d k
theorem slices_IndexFunc_Sint64_int64__impl_PointsRight_c1.b (N : Nat) (x0 : den s26) : body (slices_IndexFunc_Sint64_int64__impl_PointsRight_c1.cfg N) N Try.f47 [.one, .fn 42 0] [.v] [(false, .imm)] [⟨s26, .imm, x0⟩] (fun r i => some (r, i)) = bindO (slices_IndexFunc_Sint64_int64__impl_PointsRight_c1 N x0) fun r => some ([⟨(.int .i64), .imm, r⟩], []) := by
  show _ = bindF _ _
  conv => rhs; simp only [slices_IndexFunc_Sint64_int64__impl_PointsRight_c1, bindF_ifB, bindF_bindO, bindF_pure, bindF_none, bindF_onSum, slices_IndexFunc_Sint64_int64__impl_PointsRight_c1.q2]
  kernel_rfl
theorem slices_IndexFunc_Sint64_int64__impl_PointsRight_c1.ok (N : Nat) : ConOk Try.prog 47 [.one, .fn 42 0] (slices_IndexFunc_Sint64_int64__impl_PointsRight_c1.con N) := ok1 (g := slices_IndexFunc_Sint64_int64__impl_PointsRight_c1.cfg N) (N := N) (res := [(false, .imm)]) tys_ok (slices_IndexFunc_Sint64_int64__impl_PointsRight_c1.cons N) mixed Try.func47 (slices_IndexFunc_Sint64_int64__impl_PointsRight_c1.ls N) rfl (slices_IndexFunc_Sint64_int64__impl_PointsRight_c1.b N)
theorem slices_IndexFunc_Sint64_int64__impl_PointsRight_c1.det (N : Nat) : ConDet (slices_IndexFunc_Sint64_int64__impl_PointsRight_c1.con N) := det1
def slices_ContainsFunc_Sint64_int64__impl_PointsRight_c1.con (N : Nat) : Con := { modes := [.v], ptrs := [false], fn := fn1 s26 .imm (slices_ContainsFunc_Sint64_int64__impl_PointsRight_c1 N) (fun r => [⟨.bool, .imm, r⟩]) (fun r => []) }
def slices_ContainsFunc_Sint64_int64__impl_PointsRight_c1.cfg (N : Nat) : Cfg := { ty := tys, keep := [7], flt := [], elm := elm0, live := [], ord := [], con := [((47, [.one, .fn 42 0]), slices_IndexFunc_Sint64_int64__impl_PointsRight_c1.con N)], loops := [], joins := [] }
theorem slices_ContainsFunc_Sint64_int64__impl_PointsRight_c1.cons (N : Nat) : ConsOk Try.prog (slices_ContainsFunc_Sint64_int64__impl_PointsRight_c1.cfg N).con := (consOk_cons (hb47) (slices_IndexFunc_Sint64_int64__impl_PointsRight_c1.ok N) (slices_IndexFunc_Sint64_int64__impl_PointsRight_c1.det N) consOk_nil)
theorem slices_ContainsFunc_Sint64_int64__impl_PointsRight_c1.ls (N : Nat) : LoopsOk Try.prog (slices_ContainsFunc_Sint64_int64__impl_PointsRight_c1.cfg N) (fnBody Try.f41) := loopsL (l := []) (by kernel_rfl) trivial
theorem slices_ContainsFunc_Sint64_int64__impl_PointsRight_c1.b (N : Nat) (x0 : den s26) : body (slices_ContainsFunc_Sint64_int64__impl_PointsRight_c1.cfg N) N Try.f41 [.one, .fn 42 0] [.v] [(false, .imm)] [⟨s26, .imm, x0⟩] (fun r i => some (r, i)) = bindO (slices_ContainsFunc_Sint64_int64__impl_PointsRight_c1 N x0) fun r => some ([⟨.bool, .imm, r⟩], []) := by
  show _ = bindF _ _
  conv => rhs; simp only [slices_ContainsFunc_Sint64_int64__impl_PointsRight_c1, bindF_ifB, bindF_bindO, bindF_pure, bindF_none, bindF_onSum]
  kernel_rfl
theorem slices_ContainsFunc_Sint64_int64__impl_PointsRight_c1.ok (N : Nat) : ConOk Try.prog 41 [.one, .fn 42 0] (slices_ContainsFunc_Sint64_int64__impl_PointsRight_c1.con N) := ok1 (g := slices_ContainsFunc_Sint64_int64__impl_PointsRight_c1.cfg N) (N := N) (res := [(false, .imm)]) tys_ok (slices_ContainsFunc_Sint64_int64__impl_PointsRight_c1.cons N) mixed Try.func41 (slices_ContainsFunc_Sint64_int64__impl_PointsRight_c1.ls N) rfl (slices_ContainsFunc_Sint64_int64__impl_PointsRight_c1.b N)
theorem slices_ContainsFunc_Sint64_int64__impl_PointsRight_c1.det (N : Nat) : ConDet (slices_ContainsFunc_Sint64_int64__impl_PointsRight_c1.con N) := det1
def impl_PointsRight.con (N : Nat) : Con := { modes := [.v], ptrs := [false], fn := fn1 s26 .imm (impl_PointsRight N) (fun r => [⟨.bool, .imm, r⟩]) (fun r => []) }
def impl_PointsRight.cfg (N : Nat) : Cfg := { ty := tys, keep := [8], flt := [], elm := elm0, live := [], ord := [], con := [((41, [.one, .fn 42 0]), slices_ContainsFunc_Sint64_int64__impl_PointsRight_c1.con N)], loops := [], joins := [] }
theorem impl_PointsRight.cons (N : Nat) : ConsOk Try.prog (impl_PointsRight.cfg N).con := (consOk_cons (hb41) (slices_ContainsFunc_Sint64_int64__impl_PointsRight_c1.ok N) (slices_ContainsFunc_Sint64_int64__impl_PointsRight_c1.det N) consOk_nil)
theorem impl_PointsRight.ls (N : Nat) : LoopsOk Try.prog (impl_PointsRight.cfg N) (fnBody Try.f35) := loopsL (l := []) (by kernel_rfl) trivial
theorem impl_PointsRight.b (N : Nat) (x0 : den s26) : body (impl_PointsRight.cfg N) N Try.f35 [.one] [.v] [(false, .imm)] [⟨s26, .imm, x0⟩] (fun r i => some (r, i)) = bindO (impl_PointsRight N x0) fun r => some ([⟨.bool, .imm, r⟩], []) := by
  show _ = bindF _ _
  conv => rhs; simp only [impl_PointsRight, bindF_ifB, bindF_bindO, bindF_pure, bindF_none, bindF_onSum]
  kernel_rfl
theorem impl_PointsRight.ok (N : Nat) : ConOk Try.prog 35 [.one] (impl_PointsRight.con N) := ok1 (g := impl_PointsRight.cfg N) (N := N) (res := [(false, .imm)]) tys_ok (impl_PointsRight.cons N) mixed Try.func35 (impl_PointsRight.ls N) rfl (impl_PointsRight.b N)
theorem impl_PointsRight.det (N : Nat) : ConDet (impl_PointsRight.con N) := det1
end Go.AE.F
end
