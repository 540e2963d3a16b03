/- The printed functions are what the program comes to: contracts. -/
import Derived.Test.YtjdehlkgnbcedaaLSpotsL2
noncomputable section
namespace Go.AE.F
open Go.AE Go.Proofs
set_option maxRecDepth 100000
def spec_WidthOf.con (N : Nat) : Con := { modes := [.v], ptrs := [false], fn := fn1 (.int .i64) .imm (spec_WidthOf N) (fun r => [⟨(.int .i64), .imm, r⟩]) (fun r => []) }
def spec_WidthOf.cfg (N : Nat) : Cfg := { ty := tys, keep := [4], flt := [], elm := elm0, live := [], ord := [], con := [((31, [.one]), spec_l01Point.con N)], loops := [], joins := [] }
theorem spec_WidthOf.cons (N : Nat) : ConsOk Try.prog (spec_WidthOf.cfg N).con := (consOk_cons (hb31) (spec_l01Point.ok N) (spec_l01Point.det N) consOk_nil)
theorem spec_WidthOf.ls (N : Nat) : LoopsOk Try.prog (spec_WidthOf.cfg N) (fnBody Try.f49) := loopsL (l := []) (by kernel_rfl) trivial
theorem spec_WidthOf.b (N : Nat) (x0 : den (.int .i64)) : body (spec_WidthOf.cfg N) N Try.f49 [.one] [.v] [(false, .imm)] [⟨(.int .i64), .imm, x0⟩] (fun r i => some (r, i)) = bindO (spec_WidthOf N x0) fun r => some ([⟨(.int .i64), .imm, r⟩], []) := by
  show _ = bindF _ _
  conv => rhs; simp only [spec_WidthOf, bindF_ifB, bindF_bindO, bindF_pure, bindF_none, bindF_onSum]
  kernel_rfl
theorem spec_WidthOf.ok (N : Nat) : ConOk Try.prog 49 [.one] (spec_WidthOf.con N) := ok1 (g := spec_WidthOf.cfg N) (N := N) (res := [(false, .imm)]) tys_ok (spec_WidthOf.cons N) mixed Try.func49 (spec_WidthOf.ls N) rfl (spec_WidthOf.b N)
theorem spec_WidthOf.det (N : Nat) : ConDet (spec_WidthOf.con N) := det1
def spec_l08Wide.con (N : Nat) : Con := { modes := [.v], ptrs := [false], fn := fn1 s72 .imm (spec_l08Wide N) (fun r => [⟨.bool, .imm, r⟩]) (fun r => []) }
def spec_l08Wide.cfg (N : Nat) : Cfg := { ty := tys, keep := [12], flt := [], elm := elm0, live := [], ord := [], con := [((49, [.one]), spec_WidthOf.con N)], loops := [], joins := [] }
theorem spec_l08Wide.cons (N : Nat) : ConsOk Try.prog (spec_l08Wide.cfg N).con := (consOk_cons (hb49) (spec_WidthOf.ok N) (spec_WidthOf.det N) consOk_nil)
theorem spec_l08Wide.ls (N : Nat) : LoopsOk Try.prog (spec_l08Wide.cfg N) (fnBody Try.f50) := loopsL (l := []) (by kernel_rfl) trivial
theorem spec_l08Wide.b (N : Nat) (x0 : den s72) : body (spec_l08Wide.cfg N) N Try.f50 [.one] [.v] [(false, .imm)] [⟨s72, .imm, x0⟩] (fun r i => some (r, i)) = bindO (spec_l08Wide N x0) fun r => some ([⟨.bool, .imm, r⟩], []) := by
  show _ = bindF _ _
  conv => rhs; simp only [spec_l08Wide, bindF_ifB, bindF_bindO, bindF_pure, bindF_none, bindF_onSum]
  kernel_rfl
theorem spec_l08Wide.ok (N : Nat) : ConOk Try.prog 50 [.one] (spec_l08Wide.con N) := ok1 (g := spec_l08Wide.cfg N) (N := N) (res := [(false, .imm)]) tys_ok (spec_l08Wide.cons N) mixed Try.func50 (spec_l08Wide.ls N) rfl (spec_l08Wide.b N)
theorem spec_l08Wide.det (N : Nat) : ConDet (spec_l08Wide.con N) := det1
def spec_l01Copy.con (N : Nat) : Con := { modes := [.v], ptrs := [false], fn := fn1 s23 .imm (spec_l01Copy N) (fun r => [⟨s23, (.own .imm), r⟩]) (fun r => []) }
def spec_l01Copy.cfg (N : Nat) : Cfg := { ty := tys, keep := [], flt := [], elm := elm0, live := [], ord := [], con := [], loops := [], joins := [] }
theorem spec_l01Copy.cons (N : Nat) : ConsOk Try.prog (spec_l01Copy.cfg N).con := consOk_nil
theorem spec_l01Copy.ls (N : Nat) : LoopsOk Try.prog (spec_l01Copy.cfg N) (fnBody Try.f51) := loopsL (l := []) (by kernel_rfl) trivial
theorem spec_l01Copy.b (N : Nat) (x0 : den s23) : body (spec_l01Copy.cfg N) N Try.f51 [.one] [.v] [(false, (.own .imm))] [⟨s23, .imm, x0⟩] (fun r i => some (r, i)) = bindO (spec_l01Copy N x0) fun r => some ([⟨s23, (.own .imm), r⟩], []) := by
  show _ = bindF _ _
  conv => rhs; simp only [spec_l01Copy, bindF_ifB, bindF_bindO, bindF_pure, bindF_none, bindF_onSum]
  kernel_rfl
theorem spec_l01Copy.ok (N : Nat) : ConOk Try.prog 51 [.one] (spec_l01Copy.con N) := ok1 (g := spec_l01Copy.cfg N) (N := N) (res := [(false, (.own .imm))]) tys_ok (spec_l01Copy.cons N) mixed Try.func51 (spec_l01Copy.ls N) rfl (spec_l01Copy.b N)
theorem spec_l01Copy.det (N : Nat) : ConDet (spec_l01Copy.con N) := det1
def spec_l09Pen_shown.con (N : Nat) : Con := { modes := [.io, .v, .v], ptrs := [], fn := fn3 s64 (.pr .imm (.pr (.own (.own (.pr (.own .imm) .imm))) .imm)) (.int .i64) .imm (.int .i64) .imm (spec_l09Pen_shown N) (fun r => []) (fun r => [⟨s64, (.pr .imm (.pr (.own (.own (.pr (.own .imm) .imm))) .imm)), r⟩]) }
def spec_l09Pen_shown.cfg (N : Nat) : Cfg := { ty := tys, keep := [10, 38, 69, 87], flt := [], elm := elm0, live := [], ord := [(1, [0, 1, 2, 3, 4, 5, 6, 7, 8, 9, 10, 11, 12]), (8, [0, 1, 2, 3, 4, 5, 6, 7, 8, 9, 10]), (10, [0, 1, 2, 3, 4, 5, 6, 7, 8, 9, 10, 11, 12])], con := [((49, [.one]), spec_WidthOf.con N), ((50, [.one]), spec_l08Wide.con N), ((51, [.one]), spec_l01Copy.con N), ((32, [.one]), spec_l09Pen_next.con N)], loops := [], joins := [] }
theorem spec_l09Pen_shown.cons (N : Nat) : ConsOk Try.prog (spec_l09Pen_shown.cfg N).con := (consOk_cons (hb49) (spec_WidthOf.ok N) (spec_WidthOf.det N) (consOk_cons (hb50) (spec_l08Wide.ok N) (spec_l08Wide.det N) (consOk_cons (hb51) (spec_l01Copy.ok N) (spec_l01Copy.det N) (consOk_cons (hb32) (spec_l09Pen_next.ok N) (spec_l09Pen_next.det N) consOk_nil))))
theorem spec_l09Pen_shown.ls (N : Nat) : LoopsOk Try.prog (spec_l09Pen_shown.cfg N) (fnBody Try.f46) := loopsL (l := []) (by kernel_rfl) trivial
theorem spec_l09Pen_shown.b (N : Nat) (x0 : den s64) (x1 : den (.int .i64)) (x2 : den (.int .i64)) : body (spec_l09Pen_shown.cfg N) N Try.f46 [.one, .one, .one] [.io, .v, .v] [] [⟨s64, (.pr .imm (.pr (.own (.own (.pr (.own .imm) .imm))) .imm)), x0⟩, ⟨(.int .i64), .imm, x1⟩, ⟨(.int .i64), .imm, x2⟩] (fun r i => some (r, i)) = bindO (spec_l09Pen_shown N x0 x1 x2) fun r => some ([], [⟨s64, (.pr .imm (.pr (.own (.own (.pr (.own .imm) .imm))) .imm)), r⟩]) := by
  show _ = bindF _ _
  conv => rhs; simp only [spec_l09Pen_shown, bindF_ifB, bindF_bindO, bindF_pure, bindF_none, bindF_onSum]
  kernel_rfl
theorem spec_l09Pen_shown.ok (N : Nat) : ConOk Try.prog 46 [.one, .one, .one] (spec_l09Pen_shown.con N) := ok3 (g := spec_l09Pen_shown.cfg N) (N := N) (res := []) tys_ok (spec_l09Pen_shown.cons N) mixed Try.func46 (spec_l09Pen_shown.ls N) rfl (spec_l09Pen_shown.b N)
theorem spec_l09Pen_shown.det (N : Nat) : ConDet (spec_l09Pen_shown.con N) := det3
def spec_l09Pen_point.sk4 : Skel := ⟨.ptr 0 [] :: (dd 1 (.pv (.int .i64) :: (dd 3 (.ov 50 [] :: (.pv (.int .i64) :: (dd 19 [])))))), [⟨0, s64, (.pr .imm (.pr (.own (.own (.pr (.own .imm) .imm))) .imm)), true, false⟩, ⟨50, s23, (.own .imm), false, false⟩]⟩
def spec_l09Pen_point.xs4 : List XS := [⟨.exit 0, [], ⟨dd 27 [], [⟨0, s64, (.pr .imm (.pr (.own (.own (.pr (.own .imm) .imm))) .imm)), true, false⟩]⟩⟩]
def spec_l09Pen_point.con (N : Nat) : Con := { modes := [.io, .v, .v], ptrs := [], fn := fn3 s64 (.pr .imm (.pr (.own (.own (.pr (.own .imm) .imm))) .imm)) (.int .i64) .imm (.int .i64) .imm (spec_l09Pen_point N) (fun r => []) (fun r => [⟨s64, (.pr .imm (.pr (.own (.own (.pr (.own .imm) .imm))) .imm)), r⟩]) }
def spec_l09Pen_point.cfg (N : Nat) : Cfg := { ty := tys, keep := [11, 13, 26], flt := [], elm := elm0, live := [(4, [0, 2, 6, 7])], ord := [], con := [((32, [.one]), spec_l09Pen_next.con N), ((45, [.one]), spec_l01Shown.con N), ((46, [.one, .one, .one]), spec_l09Pen_shown.con N)], loops := [(4, loopCon N spec_l09Pen_point.sk4 spec_l09Pen_point.xs4 (fun {R} => spec_l09Pen_point.l4 (R := R) N))], joins := [] }
theorem spec_l09Pen_point.cons (N : Nat) : ConsOk Try.prog (spec_l09Pen_point.cfg N).con := (consOk_cons (hb32) (spec_l09Pen_next.ok N) (spec_l09Pen_next.det N) (consOk_cons (hb45) (spec_l01Shown.ok N) (spec_l01Shown.det N) (consOk_cons (hb46) (spec_l09Pen_shown.ok N) (spec_l09Pen_shown.det N) consOk_nil)))
theorem spec_l09Pen_point.h4 {R : Type} (N : Nat) (d : spec_l09Pen_point.sk4.D) (kn : spec_l09Pen_point.sk4.D → Option R) (kx : XD spec_l09Pen_point.xs4 → Option R) : roundK (spec_l09Pen_point.cfg N) N (nthLoop (fnBody Try.f33) 0) spec_l09Pen_point.sk4 spec_l09Pen_point.xs4 d kn kx = spec_l09Pen_point.l4 N d kn kx := by kernel_rfl
theorem spec_l09Pen_point.i4 (N : Nat) : LoopsOk Try.prog (spec_l09Pen_point.cfg N) (nthLoop (fnBody Try.f33) 0) := loopsL (l := []) (by kernel_rfl) trivial
theorem spec_l09Pen_point.o4 (N : Nat) : LoopOk Try.prog (nthLoop (fnBody Try.f33) 0) (loopCon N spec_l09Pen_point.sk4 spec_l09Pen_point.xs4 (fun {R} => spec_l09Pen_point.l4 (R := R) N)) := loop_ok (g := spec_l09Pen_point.cfg N) tys_ok (spec_l09Pen_point.cons N) mixed (spec_l09Pen_point.i4 N) (fun d kn kx => spec_l09Pen_point.h4 N d kn kx)
theorem spec_l09Pen_point.ls (N : Nat) : LoopsOk Try.prog (spec_l09Pen_point.cfg N) (fnBody Try.f33) := loopsL (l := [nthLoop (fnBody Try.f33) 0]) (by kernel_rfl) ⟨loopOne (L0 := loopCon N spec_l09Pen_point.sk4 spec_l09Pen_point.xs4 (fun {R} => spec_l09Pen_point.l4 (R := R) N)) (id := 4) (by kernel_rfl) (by kernel_rfl) (spec_l09Pen_point.o4 N), trivial⟩
theorem spec_l09Pen_point.q4 {R R' : Type} {N n : Nat} {d} {k} {g : R → Option R'} : bindF (loopP (spec_l09Pen_point.l4 N) n d k) g = loopP (spec_l09Pen_point.l4 N) n d fun e => bindF (k e) g := bindF_loopP (fun d kn kx => by simp only [spec_l09Pen_point.l4, bindF_ifB, bindF_bindO, bindF_pure, bindF_none, bindF_onSum]) n d k
theorem spec_l09Pen_point.b (N : Nat) (x0 : den s64) (x1 : den (.int .i64)) (x2 : den (.int .i64)) : body (spec_l09Pen_point.cfg N) N Try.f33 [.one, .one, .one] [.io, .v, .v] [] [⟨s64, (.pr .imm (.pr (.own (.own (.pr (.own .imm) .imm))) .imm)), x0⟩, ⟨(.int .i64), .imm, x1⟩, ⟨(.int .i64), .imm, x2⟩] (fun r i => some (r, i)) = bindO (spec_l09Pen_point N x0 x1 x2) fun r => some ([], [⟨s64, (.pr .imm (.pr (.own (.own (.pr (.own .imm) .imm))) .imm)), r⟩]) := by
  show _ = bindF _ _
  conv => rhs; simp only [spec_l09Pen_point, bindF_ifB, bindF_bindO, bindF_pure, bindF_none, bindF_onSum, spec_l09Pen_point.q4]
  kernel_rfl
theorem spec_l09Pen_point.ok (N : Nat) : ConOk Try.prog 33 [.one, .one, .one] (spec_l09Pen_point.con N) := ok3 (g := spec_l09Pen_point.cfg N) (N := N) (res := []) tys_ok (spec_l09Pen_point.cons N) mixed Try.func33 (spec_l09Pen_point.ls N) rfl (spec_l09Pen_point.b N)
theorem spec_l09Pen_point.det (N : Nat) : ConDet (spec_l09Pen_point.con N) := det3
def spec_l09Pen_spot.con (N : Nat) : Con := { modes := [.rd], ptrs := [false], fn := fn1 s64 .imm (spec_l09Pen_spot N) (fun r => [⟨s30, .imm, r⟩]) (fun r => []) }
def spec_l09Pen_spot.cfg (N : Nat) : Cfg := { ty := tys, keep := [], flt := [], elm := elm0, live := [], ord := [(2, [0, 1, 2, 3, 4, 5, 6, 7, 8])], con := [], loops := [], joins := [] }
theorem spec_l09Pen_spot.cons (N : Nat) : ConsOk Try.prog (spec_l09Pen_spot.cfg N).con := consOk_nil
theorem spec_l09Pen_spot.ls (N : Nat) : LoopsOk Try.prog (spec_l09Pen_spot.cfg N) (fnBody Try.f34) := loopsL (l := []) (by kernel_rfl) trivial
theorem spec_l09Pen_spot.b (N : Nat) (x0 : den s64) : body (spec_l09Pen_spot.cfg N) N Try.f34 [.one] [.rd] [(false, .imm)] [⟨s64, .imm, x0⟩] (fun r i => some (r, i)) = bindO (spec_l09Pen_spot N x0) fun r => some ([⟨s30, .imm, r⟩], []) := by
  show _ = bindF _ _
  conv => rhs; simp only [spec_l09Pen_spot, bindF_ifB, bindF_bindO, bindF_pure, bindF_none, bindF_onSum]
  kernel_rfl
theorem spec_l09Pen_spot.ok (N : Nat) : ConOk Try.prog 34 [.one] (spec_l09Pen_spot.con N) := ok1 (g := spec_l09Pen_spot.cfg N) (N := N) (res := [(false, .imm)]) tys_ok (spec_l09Pen_spot.cons N) mixed Try.func34 (spec_l09Pen_spot.ls N) rfl (spec_l09Pen_spot.b N)
theorem spec_l09Pen_spot.det (N : Nat) : ConDet (spec_l09Pen_spot.con N) := det1
def spec_l01Min.con (N : Nat) : Con := { modes := [.v, .v], ptrs := [false], fn := fn2 (.int .i64) .imm (.int .i64) .imm (spec_l01Min N) (fun r => [⟨(.int .i64), .imm, r⟩]) (fun r => []) }
def spec_l01Min.cfg (N : Nat) : Cfg := { ty := tys, keep := [], flt := [], elm := elm0, live := [], ord := [], con := [], loops := [], joins := [] }
theorem spec_l01Min.cons (N : Nat) : ConsOk Try.prog (spec_l01Min.cfg N).con := consOk_nil
theorem spec_l01Min.ls (N : Nat) : LoopsOk Try.prog (spec_l01Min.cfg N) (fnBody Try.f35) := loopsL (l := []) (by kernel_rfl) trivial
theorem spec_l01Min.b (N : Nat) (x0 : den (.int .i64)) (x1 : den (.int .i64)) : body (spec_l01Min.cfg N) N Try.f35 [.one, .one] [.v, .v] [(false, .imm)] [⟨(.int .i64), .imm, x0⟩, ⟨(.int .i64), .imm, x1⟩] (fun r i => some (r, i)) = bindO (spec_l01Min N x0 x1) fun r => some ([⟨(.int .i64), .imm, r⟩], []) := by
  show _ = bindF _ _
  conv => rhs; simp only [spec_l01Min, bindF_ifB, bindF_bindO, bindF_pure, bindF_none, bindF_onSum]
  kernel_rfl
theorem spec_l01Min.ok (N : Nat) : ConOk Try.prog 35 [.one, .one] (spec_l01Min.con N) := ok2 (g := spec_l01Min.cfg N) (N := N) (res := [(false, .imm)]) tys_ok (spec_l01Min.cons N) mixed Try.func35 (spec_l01Min.ls N) rfl (spec_l01Min.b N)
theorem spec_l01Min.det (N : Nat) : ConDet (spec_l01Min.con N) := det2
def spec_l01Max.con (N : Nat) : Con := { modes := [.v, .v], ptrs := [false], fn := fn2 (.int .i64) .imm (.int .i64) .imm (spec_l01Max N) (fun r => [⟨(.int .i64), .imm, r⟩]) (fun r => []) }
def spec_l01Max.cfg (N : Nat) : Cfg := { ty := tys, keep := [], flt := [], elm := elm0, live := [], ord := [], con := [], loops := [], joins := [] }
theorem spec_l01Max.cons (N : Nat) : ConsOk Try.prog (spec_l01Max.cfg N).con := consOk_nil
theorem spec_l01Max.ls (N : Nat) : LoopsOk Try.prog (spec_l01Max.cfg N) (fnBody Try.f36) := loopsL (l := []) (by kernel_rfl) trivial
theorem spec_l01Max.b (N : Nat) (x0 : den (.int .i64)) (x1 : den (.int .i64)) : body (spec_l01Max.cfg N) N Try.f36 [.one, .one] [.v, .v] [(false, .imm)] [⟨(.int .i64), .imm, x0⟩, ⟨(.int .i64), .imm, x1⟩] (fun r i => some (r, i)) = bindO (spec_l01Max N x0 x1) fun r => some ([⟨(.int .i64), .imm, r⟩], []) := by
  show _ = bindF _ _
  conv => rhs; simp only [spec_l01Max, bindF_ifB, bindF_bindO, bindF_pure, bindF_none, bindF_onSum]
  kernel_rfl
theorem spec_l01Max.ok (N : Nat) : ConOk Try.prog 36 [.one, .one] (spec_l01Max.con N) := ok2 (g := spec_l01Max.cfg N) (N := N) (res := [(false, .imm)]) tys_ok (spec_l01Max.cons N) mixed Try.func36 (spec_l01Max.ls N) rfl (spec_l01Max.b N)
theorem spec_l01Max.det (N : Nat) : ConDet (spec_l01Max.con N) := det2
def spec_l09Lay.sk4 : Skel := ⟨.pv s23 :: (dd 1 (.pv .bool :: (dd 2 (.ptr 50 [] :: (dd 4 (.ptr 51 [] :: (.pv (.int .i64) :: (dd 68 [])))))))), [⟨50, s24, .imm, true, false⟩, ⟨51, s64, (.pr .imm (.pr (.own (.own (.pr (.own .imm) .imm))) .imm)), true, false⟩]⟩
def spec_l09Lay.xs4 : List XS := [⟨.exit 0, [2, 5, 10], ⟨dd 2 (.pv .bool :: (dd 2 (.ptr 50 [] :: (dd 4 (.ptr 51 [] :: (dd 69 [])))))), [⟨50, s24, .imm, true, false⟩, ⟨51, s64, (.pr .imm (.pr (.own (.own (.pr (.own .imm) .imm))) .imm)), true, false⟩]⟩⟩]
def spec_l09Lay.sk11 : Skel := ⟨dd 2 (.pv .bool :: (dd 2 (.ptr 50 [] :: (dd 4 (.ptr 51 [] :: (dd 1 (.ov 52 [] :: (.pv (.int .i64) :: (.pv (.int .i64) :: (.pv (.int .i64) :: (dd 64 []))))))))))), [⟨50, s24, .imm, true, false⟩, ⟨51, s64, (.pr .imm (.pr (.own (.own (.pr (.own .imm) .imm))) .imm)), true, false⟩, ⟨52, s47, (.own .imm), false, false⟩]⟩
def spec_l09Lay.xs11 : List XS := [⟨.exit 2, [10, 12], ⟨dd 10 (.ptr 50 [] :: (dd 1 (.ov 51 [] :: (dd 67 [])))), [⟨50, s64, (.pr .imm (.pr (.own (.own (.pr (.own .imm) .imm))) .imm)), true, false⟩, ⟨51, s47, (.own .imm), false, false⟩]⟩⟩]
def spec_l09Lay.con (N : Nat) : Con := { modes := [.v, .v, .v, .v], ptrs := [true, false], fn := fn4 s23 .imm s24 .imm .bool .imm (.int .i64) .imm (spec_l09Lay N) (fun r => [⟨s64, .imm, r.1⟩, ⟨s47, .imm, r.2⟩]) (fun r => []) }
def spec_l09Lay.cfg (N : Nat) : Cfg := { ty := tys, keep := [21, 33, 35, 41, 46, 72, 75], flt := [], elm := elm0, live := [(11, [2, 5, 10, 12, 13, 14, 15]), (4, [0, 2, 5, 10, 11])], ord := [], con := [((32, [.one]), spec_l09Pen_next.con N), ((33, [.one, .one, .one]), spec_l09Pen_point.con N), ((34, [.one]), spec_l09Pen_spot.con N), ((35, [.one, .one]), spec_l01Min.con N), ((36, [.one, .one]), spec_l01Max.con N)], loops := [(4, loopCon N spec_l09Lay.sk4 spec_l09Lay.xs4 (fun {R} => spec_l09Lay.l4 (R := R) N)), (11, loopCon N spec_l09Lay.sk11 spec_l09Lay.xs11 (fun {R} => spec_l09Lay.l11 (R := R) N))], joins := [(12, [⟨.normal, [2, 5, 10, 12, 13, 14, 15], ⟨dd 2 (.pv .bool :: (dd 2 (.ptr 50 [] :: (dd 4 (.ptr 51 [] :: (dd 1 (.ov 52 [] :: (.pv (.int .i64) :: (.pv (.int .i64) :: (.pv (.int .i64) :: (dd 64 []))))))))))), [⟨50, s24, .imm, true, false⟩, ⟨51, s64, (.pr .imm (.pr (.own (.own (.pr (.own .imm) .imm))) .imm)), true, false⟩, ⟨52, s47, (.own .imm), false, false⟩]⟩⟩])] }
theorem spec_l09Lay.cons (N : Nat) : ConsOk Try.prog (spec_l09Lay.cfg N).con := (consOk_cons (hb32) (spec_l09Pen_next.ok N) (spec_l09Pen_next.det N) (consOk_cons (hb33) (spec_l09Pen_point.ok N) (spec_l09Pen_point.det N) (consOk_cons (hb34) (spec_l09Pen_spot.ok N) (spec_l09Pen_spot.det N) (consOk_cons (hb35) (spec_l01Min.ok N) (spec_l01Min.det N) (consOk_cons (hb36) (spec_l01Max.ok N) (spec_l01Max.det N) consOk_nil)))))
theorem spec_l09Lay.h11 {R : Type} (N : Nat) (d : spec_l09Lay.sk11.D) (kn : spec_l09Lay.sk11.D → Option R) (kx : XD spec_l09Lay.xs11 → Option R) : roundK (spec_l09Lay.cfg N) N (nthLoop (fnBody Try.f20) 1) spec_l09Lay.sk11 spec_l09Lay.xs11 d kn kx = spec_l09Lay.l11 N d kn kx := by kernel_rfl
theorem spec_l09Lay.i11 (N : Nat) : LoopsOk Try.prog (spec_l09Lay.cfg N) (nthLoop (fnBody Try.f20) 1) := loopsL (l := []) (by kernel_rfl) trivial
theorem spec_l09Lay.o11 (N : Nat) : LoopOk Try.prog (nthLoop (fnBody Try.f20) 1) (loopCon N spec_l09Lay.sk11 spec_l09Lay.xs11 (fun {R} => spec_l09Lay.l11 (R := R) N)) := loop_ok (g := spec_l09Lay.cfg N) tys_ok (spec_l09Lay.cons N) mixed (spec_l09Lay.i11 N) (fun d kn kx => spec_l09Lay.h11 N d kn kx)
theorem spec_l09Lay.h4 {R : Type} (N : Nat) (d : spec_l09Lay.sk4.D) (kn : spec_l09Lay.sk4.D → Option R) (kx : XD spec_l09Lay.xs4 → Option R) : roundK (spec_l09Lay.cfg N) N (nthLoop (fnBody Try.f20) 0) spec_l09Lay.sk4 spec_l09Lay.xs4 d kn kx = spec_l09Lay.l4 N d kn kx := by kernel_rfl
theorem spec_l09Lay.i4 (N : Nat) : LoopsOk Try.prog (spec_l09Lay.cfg N) (nthLoop (fnBody Try.f20) 0) := loopsL (l := []) (by kernel_rfl) trivial
theorem spec_l09Lay.o4 (N : Nat) : LoopOk Try.prog (nthLoop (fnBody Try.f20) 0) (loopCon N spec_l09Lay.sk4 spec_l09Lay.xs4 (fun {R} => spec_l09Lay.l4 (R := R) N)) := loop_ok (g := spec_l09Lay.cfg N) tys_ok (spec_l09Lay.cons N) mixed (spec_l09Lay.i4 N) (fun d kn kx => spec_l09Lay.h4 N d kn kx)
theorem spec_l09Lay.ls (N : Nat) : LoopsOk Try.prog (spec_l09Lay.cfg N) (fnBody Try.f20) := loopsL (l := [nthLoop (fnBody Try.f20) 0, nthLoop (fnBody Try.f20) 1]) (by kernel_rfl) ⟨loopOne (L0 := loopCon N spec_l09Lay.sk4 spec_l09Lay.xs4 (fun {R} => spec_l09Lay.l4 (R := R) N)) (id := 4) (by kernel_rfl) (by kernel_rfl) (spec_l09Lay.o4 N), ⟨loopOne (L0 := loopCon N spec_l09Lay.sk11 spec_l09Lay.xs11 (fun {R} => spec_l09Lay.l11 (R := R) N)) (id := 11) (by kernel_rfl) (by kernel_rfl) (spec_l09Lay.o11 N), trivial⟩⟩
theorem spec_l09Lay.q11 {R R' : Type} {N n : Nat} {d} {k} {g : R → Option R'} : bindF (loopP (spec_l09Lay.l11 N) n d k) g = loopP (spec_l09Lay.l11 N) n d fun e => bindF (k e) g := bindF_loopP (fun d kn kx => by simp only [spec_l09Lay.l11, bindF_ifB, bindF_bindO, bindF_pure, bindF_none, bindF_onSum]) n d k
theorem spec_l09Lay.q4 {R R' : Type} {N n : Nat} {d} {k} {g : R → Option R'} : bindF (loopP (spec_l09Lay.l4 N) n d k) g = loopP (spec_l09Lay.l4 N) n d fun e => bindF (k e) g := bindF_loopP (fun d kn kx => by simp only [spec_l09Lay.l4, bindF_ifB, bindF_bindO, bindF_pure, bindF_none, bindF_onSum]) n d k
theorem spec_l09Lay.b (N : Nat) (x0 : den s23) (x1 : den s24) (x2 : den .bool) (x3 : den (.int .i64)) : body (spec_l09Lay.cfg N) N Try.f20 [.one, .one, .one, .one] [.v, .v, .v, .v] [(true, .imm), (false, .imm)] [⟨s23, .imm, x0⟩, ⟨s24, .imm, x1⟩, ⟨.bool, .imm, x2⟩, ⟨(.int .i64), .imm, x3⟩] (fun r i => some (r, i)) = bindO (spec_l09Lay N x0 x1 x2 x3) fun r => some ([⟨s64, .imm, r.1⟩, ⟨s47, .imm, r.2⟩], []) := by
  show _ = bindF _ _
  conv => rhs; simp only [spec_l09Lay, bindF_ifB, bindF_bindO, bindF_pure, bindF_none, bindF_onSum, spec_l09Lay.q4, spec_l09Lay.q11]
  kernel_rfl
theorem spec_l09Lay.ok (N : Nat) : ConOk Try.prog 20 [.one, .one, .one, .one] (spec_l09Lay.con N) := ok4 (g := spec_l09Lay.cfg N) (N := N) (res := [(true, .imm), (false, .imm)]) tys_ok (spec_l09Lay.cons N) mixed Try.func20 (spec_l09Lay.ls N) rfl (spec_l09Lay.b N)
theorem spec_l09Lay.det (N : Nat) : ConDet (spec_l09Lay.con N) := det4
def spec_ViewRows.con (N : Nat) : Con := { modes := [.v, .v, .v], ptrs := [false], fn := fn3 s23 .imm s24 .imm (.int .i64) .imm (spec_ViewRows N) (fun r => [⟨(.int .i64), .imm, r⟩]) (fun r => []) }
def spec_ViewRows.cfg (N : Nat) : Cfg := { ty := tys, keep := [14, 19, 24, 31], flt := [], elm := elm0, live := [], ord := [], con := [((17, [.one]), spec_PointsRight.con N), ((18, [.one]), spec_BufRight.con N), ((19, [.one, .one]), spec_l08Size.con N), ((20, [.one, .one, .one, .one]), spec_l09Lay.con N)], loops := [], joins := [] }
theorem spec_ViewRows.cons (N : Nat) : ConsOk Try.prog (spec_ViewRows.cfg N).con := (consOk_cons (hb17) (spec_PointsRight.ok N) (spec_PointsRight.det N) (consOk_cons (hb18) (spec_BufRight.ok N) (spec_BufRight.det N) (consOk_cons (hb19) (spec_l08Size.ok N) (spec_l08Size.det N) (consOk_cons (hb20) (spec_l09Lay.ok N) (spec_l09Lay.det N) consOk_nil))))
theorem spec_ViewRows.ls (N : Nat) : LoopsOk Try.prog (spec_ViewRows.cfg N) (fnBody Try.f7) := loopsL (l := []) (by kernel_rfl) trivial
theorem spec_ViewRows.b (N : Nat) (x0 : den s23) (x1 : den s24) (x2 : den (.int .i64)) : body (spec_ViewRows.cfg N) N Try.f7 [.one, .one, .one] [.v, .v, .v] [(false, .imm)] [⟨s23, .imm, x0⟩, ⟨s24, .imm, x1⟩, ⟨(.int .i64), .imm, x2⟩] (fun r i => some (r, i)) = bindO (spec_ViewRows N x0 x1 x2) fun r => some ([⟨(.int .i64), .imm, r⟩], []) := by
  show _ = bindF _ _
  conv => rhs; simp only [spec_ViewRows, bindF_ifB, bindF_bindO, bindF_pure, bindF_none, bindF_onSum]
  kernel_rfl
theorem spec_ViewRows.ok (N : Nat) : ConOk Try.prog 7 [.one, .one, .one] (spec_ViewRows.con N) := ok3 (g := spec_ViewRows.cfg N) (N := N) (res := [(false, .imm)]) tys_ok (spec_ViewRows.cons N) mixed Try.func7 (spec_ViewRows.ls N) rfl (spec_ViewRows.b N)
theorem spec_ViewRows.det (N : Nat) : ConDet (spec_ViewRows.con N) := det3
def impl_ViewSpot.con (N : Nat) : Con := { modes := [.v, .v, .v, .v], ptrs := [false], fn := fn4 s23 .imm s24 .imm (.int .i64) .imm (.int .i64) .imm (impl_ViewSpot N) (fun r => [⟨s30, .imm, r⟩]) (fun r => []) }
def impl_ViewSpot.cfg (N : Nat) : Cfg := { ty := tys, keep := [12, 16, 23], flt := [], elm := elm0, live := [], ord := [], con := [((14, [.one, .one, .one]), impl_isViewed.con N), ((21, [.one, .one]), impl_Buf_isPlace.con N), ((15, [.one, .one, .one, .one]), impl_lay.con N)], loops := [], joins := [] }
theorem impl_ViewSpot.cons (N : Nat) : ConsOk Try.prog (impl_ViewSpot.cfg N).con := (consOk_cons (hb14) (impl_isViewed.ok N) (impl_isViewed.det N) (consOk_cons (hb21) (impl_Buf_isPlace.ok N) (impl_Buf_isPlace.det N) (consOk_cons (hb15) (impl_lay.ok N) (impl_lay.det N) consOk_nil)))
theorem impl_ViewSpot.ls (N : Nat) : LoopsOk Try.prog (impl_ViewSpot.cfg N) (fnBody Try.f8) := loopsL (l := []) (by kernel_rfl) trivial
theorem impl_ViewSpot.b (N : Nat) (x0 : den s23) (x1 : den s24) (x2 : den (.int .i64)) (x3 : den (.int .i64)) : body (impl_ViewSpot.cfg N) N Try.f8 [.one, .one, .one, .one] [.v, .v, .v, .v] [(false, .imm)] [⟨s23, .imm, x0⟩, ⟨s24, .imm, x1⟩, ⟨(.int .i64), .imm, x2⟩, ⟨(.int .i64), .imm, x3⟩] (fun r i => some (r, i)) = bindO (impl_ViewSpot N x0 x1 x2 x3) fun r => some ([⟨s30, .imm, r⟩], []) := by
  show _ = bindF _ _
  conv => rhs; simp only [impl_ViewSpot, bindF_ifB, bindF_bindO, bindF_pure, bindF_none, bindF_onSum]
  kernel_rfl
theorem impl_ViewSpot.ok (N : Nat) : ConOk Try.prog 8 [.one, .one, .one, .one] (impl_ViewSpot.con N) := ok4 (g := impl_ViewSpot.cfg N) (N := N) (res := [(false, .imm)]) tys_ok (impl_ViewSpot.cons N) mixed Try.func8 (impl_ViewSpot.ls N) rfl (impl_ViewSpot.b N)
theorem impl_ViewSpot.det (N : Nat) : ConDet (impl_ViewSpot.con N) := det4
def spec_ViewSpot.con (N : Nat) : Con := { modes := [.v, .v, .v, .v], ptrs := [false], fn := fn4 s23 .imm s24 .imm (.int .i64) .imm (.int .i64) .imm (spec_ViewSpot N) (fun r => [⟨s30, .imm, r⟩]) (fun r => []) }
def spec_ViewSpot.cfg (N : Nat) : Cfg := { ty := tys, keep := [16, 21, 26, 45], flt := [], elm := elm0, live := [], ord := [], con := [((17, [.one]), spec_PointsRight.con N), ((18, [.one]), spec_BufRight.con N), ((19, [.one, .one]), spec_l08Size.con N), ((20, [.one, .one, .one, .one]), spec_l09Lay.con N)], loops := [], joins := [] }
theorem spec_ViewSpot.cons (N : Nat) : ConsOk Try.prog (spec_ViewSpot.cfg N).con := (consOk_cons (hb17) (spec_PointsRight.ok N) (spec_PointsRight.det N) (consOk_cons (hb18) (spec_BufRight.ok N) (spec_BufRight.det N) (consOk_cons (hb19) (spec_l08Size.ok N) (spec_l08Size.det N) (consOk_cons (hb20) (spec_l09Lay.ok N) (spec_l09Lay.det N) consOk_nil))))
theorem spec_ViewSpot.ls (N : Nat) : LoopsOk Try.prog (spec_ViewSpot.cfg N) (fnBody Try.f9) := loopsL (l := []) (by kernel_rfl) trivial
theorem spec_ViewSpot.b (N : Nat) (x0 : den s23) (x1 : den s24) (x2 : den (.int .i64)) (x3 : den (.int .i64)) : body (spec_ViewSpot.cfg N) N Try.f9 [.one, .one, .one, .one] [.v, .v, .v, .v] [(false, .imm)] [⟨s23, .imm, x0⟩, ⟨s24, .imm, x1⟩, ⟨(.int .i64), .imm, x2⟩, ⟨(.int .i64), .imm, x3⟩] (fun r i => some (r, i)) = bindO (spec_ViewSpot N x0 x1 x2 x3) fun r => some ([⟨s30, .imm, r⟩], []) := by
  show _ = bindF _ _
  conv => rhs; simp only [spec_ViewSpot, bindF_ifB, bindF_bindO, bindF_pure, bindF_none, bindF_onSum]
  kernel_rfl
theorem spec_ViewSpot.ok (N : Nat) : ConOk Try.prog 9 [.one, .one, .one, .one] (spec_ViewSpot.con N) := ok4 (g := spec_ViewSpot.cfg N) (N := N) (res := [(false, .imm)]) tys_ok (spec_ViewSpot.cons N) mixed Try.func9 (spec_ViewSpot.ls N) rfl (spec_ViewSpot.b N)
theorem spec_ViewSpot.det (N : Nat) : ConDet (spec_ViewSpot.con N) := det4
end Go.AE.F
end
