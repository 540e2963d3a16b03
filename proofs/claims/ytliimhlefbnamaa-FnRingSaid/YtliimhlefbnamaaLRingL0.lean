/- The printed functions are what the program comes to: contracts. -/
import Derived.Test.YtliimhlefbnamaaLRingF2
import Derived.Test.YtliimhlefbnamaaLRingT
noncomputable section
namespace Go.AE.F
open Go.AE Go.Proofs
set_option maxRecDepth 100000
def spec_l01Source.sk3 : Skel := ⟨.pv s22 :: (dd 2 (.ptr 50 [] :: (.pv (.int .i64) :: (dd 42 [])))), [⟨50, s51, .imm, true, false⟩]⟩
def spec_l01Source.xs3 : List XS := [⟨.exit 0, [0, 3], ⟨.pv s22 :: (dd 2 (.ptr 50 [] :: (dd 43 []))), [⟨50, s51, .imm, true, false⟩]⟩⟩]
def spec_l01Source.con (N : Nat) : Con := { modes := [.v], ptrs := [true], fn := fn1 s22 .imm (spec_l01Source N) (fun r => [⟨s51, .imm, r⟩]) (fun r => []) }
def spec_l01Source.cfg (N : Nat) : Cfg := { ty := tys, keep := [], flt := [], elm := elm0, live := [(3, [0, 3, 4, 13, 14])], ord := [(5, [0, 1, 2, 3, 4, 5, 6, 7, 8, 9, 10, 11, 12, 13, 14])], con := [], loops := [(3, loopCon N spec_l01Source.sk3 spec_l01Source.xs3 (fun {R} => spec_l01Source.l3 (R := R) N))], joins := [] }
theorem spec_l01Source.cons (N : Nat) : ConsOk Try.prog (spec_l01Source.cfg N).con := consOk_nil
theorem spec_l01Source.h3 {R : Type} (N : Nat) (d : spec_l01Source.sk3.D) (kn : spec_l01Source.sk3.D → Option R) (kx : XD spec_l01Source.xs3 → Option R) : roundK (spec_l01Source.cfg N) N (nthLoop (fnBody Try.f15) 0) spec_l01Source.sk3 spec_l01Source.xs3 d kn kx = spec_l01Source.l3 N d kn kx := by kernel_rfl
theorem spec_l01Source.i3 (N : Nat) : LoopsOk Try.prog (spec_l01Source.cfg N) (nthLoop (fnBody Try.f15) 0) := loopsL (l := []) (by kernel_rfl) trivial
theorem spec_l01Source.o3 (N : Nat) : LoopOk Try.prog (nthLoop (fnBody Try.f15) 0) (loopCon N spec_l01Source.sk3 spec_l01Source.xs3 (fun {R} => spec_l01Source.l3 (R := R) N)) := loop_ok (g := spec_l01Source.cfg N) tys_ok (spec_l01Source.cons N) mixed (spec_l01Source.i3 N) (fun d kn kx => spec_l01Source.h3 N d kn kx)
theorem spec_l01Source.ls (N : Nat) : LoopsOk Try.prog (spec_l01Source.cfg N) (fnBody Try.f15) := loopsL (l := [nthLoop (fnBody Try.f15) 0]) (by kernel_rfl) ⟨loopOne (L0 := loopCon N spec_l01Source.sk3 spec_l01Source.xs3 (fun {R} => spec_l01Source.l3 (R := R) N)) (id := 3) (by kernel_rfl) (by kernel_rfl) (spec_l01Source.o3 N), trivial⟩
theorem spec_l01Source.q3 {R R' : Type} {N n : Nat} {d} {k} {g : R → Option R'} : bindF (loopP (spec_l01Source.l3 N) n d k) g = loopP (spec_l01Source.l3 N) n d fun e => bindF (k e) g := bindF_loopP (fun d kn kx => by simp only [spec_l01Source.l3, bindF_ifB, bindF_bindO, bindF_pure, bindF_none, bindF_onSum]) n d k
theorem spec_l01Source.b (N : Nat) (x0 : den s22) : body (spec_l01Source.cfg N) N Try.f15 [.one] [.v] [(true, .imm)] [⟨s22, .imm, x0⟩] (fun r i => some (r, i)) = bindO (spec_l01Source N x0) fun r => some ([⟨s51, .imm, r⟩], []) := by
  show _ = bindF _ _
  conv => rhs; simp only [spec_l01Source, bindF_ifB, bindF_bindO, bindF_pure, bindF_none, bindF_onSum, spec_l01Source.q3]
  kernel_rfl
theorem spec_l01Source.ok (N : Nat) : ConOk Try.prog 15 [.one] (spec_l01Source.con N) := ok1 (g := spec_l01Source.cfg N) (N := N) (res := [(true, .imm)]) tys_ok (spec_l01Source.cons N) mixed Try.func15 (spec_l01Source.ls N) rfl (spec_l01Source.b N)
theorem spec_l01Source.det (N : Nat) : ConDet (spec_l01Source.con N) := det1
def spec_l01Src_n.con (N : Nat) : Con := { modes := [.io, .v], ptrs := [false], fn := fn2 s51 .imm (.int .i64) .imm (spec_l01Src_n N) (fun r => [⟨(.int .i64), .imm, r.1⟩]) (fun r => [⟨s51, .imm, r.2⟩]) }
def spec_l01Src_n.cfg (N : Nat) : Cfg := { ty := tys, keep := [], flt := [], elm := elm0, live := [], ord := [(4, [0, 1, 2, 3, 4, 5, 6, 7, 8, 9]), (5, [0, 1, 2, 3, 4, 5, 6, 7, 8, 9, 10, 11]), (7, [0, 1, 2, 3, 4, 5, 6, 7, 8, 9, 10, 11, 12, 13]), (8, [0, 1, 2, 3, 4, 5, 6, 7, 8, 9, 10, 11, 12, 13]), (9, [0, 1, 2, 3, 4, 5, 6, 7, 8, 9, 10, 11, 12, 13])], con := [], loops := [], joins := [] }
theorem spec_l01Src_n.cons (N : Nat) : ConsOk Try.prog (spec_l01Src_n.cfg N).con := consOk_nil
theorem spec_l01Src_n.ls (N : Nat) : LoopsOk Try.prog (spec_l01Src_n.cfg N) (fnBody Try.f32) := loopsL (l := []) (by kernel_rfl) trivial
theorem spec_l01Src_n.b (N : Nat) (x0 : den s51) (x1 : den (.int .i64)) : body (spec_l01Src_n.cfg N) N Try.f32 [.one, .one] [.io, .v] [(false, .imm)] [⟨s51, .imm, x0⟩, ⟨(.int .i64), .imm, x1⟩] (fun r i => some (r, i)) = bindO (spec_l01Src_n N x0 x1) fun r => some ([⟨(.int .i64), .imm, r.1⟩], [⟨s51, .imm, r.2⟩]) := by
  show _ = bindF _ _
  conv => rhs; simp only [spec_l01Src_n, bindF_ifB, bindF_bindO, bindF_pure, bindF_none, bindF_onSum]
  kernel_rfl
theorem spec_l01Src_n.ok (N : Nat) : ConOk Try.prog 32 [.one, .one] (spec_l01Src_n.con N) := ok2 (g := spec_l01Src_n.cfg N) (N := N) (res := [(false, .imm)]) tys_ok (spec_l01Src_n.cons N) mixed Try.func32 (spec_l01Src_n.ls N) rfl (spec_l01Src_n.b N)
theorem spec_l01Src_n.det (N : Nat) : ConDet (spec_l01Src_n.con N) := det2
def spec_l01Src_one.con (N : Nat) : Con := { modes := [.io, .v], ptrs := [false], fn := fn2 s51 .imm (.int .i64) .imm (spec_l01Src_one N) (fun r => [⟨.bool, .imm, r.1⟩]) (fun r => [⟨s51, .imm, r.2⟩]) }
def spec_l01Src_one.cfg (N : Nat) : Cfg := { ty := tys, keep := [7], flt := [], elm := elm0, live := [], ord := [], con := [((32, [.one, .one]), spec_l01Src_n.con N)], loops := [], joins := [] }
theorem spec_l01Src_one.cons (N : Nat) : ConsOk Try.prog (spec_l01Src_one.cfg N).con := (consOk_cons (hb32) (spec_l01Src_n.ok N) (spec_l01Src_n.det N) consOk_nil)
theorem spec_l01Src_one.ls (N : Nat) : LoopsOk Try.prog (spec_l01Src_one.cfg N) (fnBody Try.f33) := loopsL (l := []) (by kernel_rfl) trivial
theorem spec_l01Src_one.b (N : Nat) (x0 : den s51) (x1 : den (.int .i64)) : body (spec_l01Src_one.cfg N) N Try.f33 [.one, .one] [.io, .v] [(false, .imm)] [⟨s51, .imm, x0⟩, ⟨(.int .i64), .imm, x1⟩] (fun r i => some (r, i)) = bindO (spec_l01Src_one N x0 x1) fun r => some ([⟨.bool, .imm, r.1⟩], [⟨s51, .imm, r.2⟩]) := by
  show _ = bindF _ _
  conv => rhs; simp only [spec_l01Src_one, bindF_ifB, bindF_bindO, bindF_pure, bindF_none, bindF_onSum]
  kernel_rfl
theorem spec_l01Src_one.ok (N : Nat) : ConOk Try.prog 33 [.one, .one] (spec_l01Src_one.con N) := ok2 (g := spec_l01Src_one.cfg N) (N := N) (res := [(false, .imm)]) tys_ok (spec_l01Src_one.cons N) mixed Try.func33 (spec_l01Src_one.ls N) rfl (spec_l01Src_one.b N)
theorem spec_l01Src_one.det (N : Nat) : ConDet (spec_l01Src_one.con N) := det2
def spec_l01Src_point.con (N : Nat) : Con := { modes := [.io], ptrs := [false], fn := fn1 s51 .imm (spec_l01Src_point N) (fun r => [⟨(.int .i64), .imm, r.1⟩]) (fun r => [⟨s51, .imm, r.2⟩]) }
def spec_l01Src_point.cfg (N : Nat) : Cfg := { ty := tys, keep := [4, 13, 20, 27, 34, 40, 43], flt := [], elm := elm0, live := [], ord := [], con := [((32, [.one, .one]), spec_l01Src_n.con N)], loops := [], joins := [] }
theorem spec_l01Src_point.cons (N : Nat) : ConsOk Try.prog (spec_l01Src_point.cfg N).con := (consOk_cons (hb32) (spec_l01Src_n.ok N) (spec_l01Src_n.det N) consOk_nil)
theorem spec_l01Src_point.ls (N : Nat) : LoopsOk Try.prog (spec_l01Src_point.cfg N) (fnBody Try.f40) := loopsL (l := []) (by kernel_rfl) trivial
theorem spec_l01Src_point.b (N : Nat) (x0 : den s51) : body (spec_l01Src_point.cfg N) N Try.f40 [.one] [.io] [(false, .imm)] [⟨s51, .imm, x0⟩] (fun r i => some (r, i)) = bindO (spec_l01Src_point N x0) fun r => some ([⟨(.int .i64), .imm, r.1⟩], [⟨s51, .imm, r.2⟩]) := by
  show _ = bindF _ _
  conv => rhs; simp only [spec_l01Src_point, bindF_ifB, bindF_bindO, bindF_pure, bindF_none, bindF_onSum]
  kernel_rfl
theorem spec_l01Src_point.ok (N : Nat) : ConOk Try.prog 40 [.one] (spec_l01Src_point.con N) := ok1 (g := spec_l01Src_point.cfg N) (N := N) (res := [(false, .imm)]) tys_ok (spec_l01Src_point.cons N) mixed Try.func40 (spec_l01Src_point.ls N) rfl (spec_l01Src_point.b N)
theorem spec_l01Src_point.det (N : Nat) : ConDet (spec_l01Src_point.con N) := det1
def spec_l01Src_points.sk2 : Skel := ⟨.ptr 0 [] :: (.pv (.int .i64) :: (dd 3 (.ov 50 [] :: (dd 11 [])))), [⟨0, s51, .imm, true, false⟩, ⟨50, s26, (.own .imm), false, false⟩]⟩
def spec_l01Src_points.xs2 : List XS := [⟨.exit 0, [5], ⟨dd 5 (.ov 50 [] :: (dd 11 [])), [⟨0, s51, .imm, true, false⟩, ⟨50, s26, (.own .imm), false, false⟩]⟩⟩]
def spec_l01Src_points.con (N : Nat) : Con := { modes := [.io, .v], ptrs := [false], fn := fn2 s51 .imm (.int .i64) .imm (spec_l01Src_points N) (fun r => [⟨s26, (.own .imm), r.1⟩]) (fun r => [⟨s51, .imm, r.2⟩]) }
def spec_l01Src_points.cfg (N : Nat) : Cfg := { ty := tys, keep := [13], flt := [], elm := elm0, live := [(2, [0, 1, 5])], ord := [], con := [((40, [.one]), spec_l01Src_point.con N)], loops := [(2, loopCon N spec_l01Src_points.sk2 spec_l01Src_points.xs2 (fun {R} => spec_l01Src_points.l2 (R := R) N))], joins := [] }
theorem spec_l01Src_points.cons (N : Nat) : ConsOk Try.prog (spec_l01Src_points.cfg N).con := (consOk_cons (hb40) (spec_l01Src_point.ok N) (spec_l01Src_point.det N) consOk_nil)
theorem spec_l01Src_points.h2 {R : Type} (N : Nat) (d : spec_l01Src_points.sk2.D) (kn : spec_l01Src_points.sk2.D → Option R) (kx : XD spec_l01Src_points.xs2 → Option R) : roundK (spec_l01Src_points.cfg N) N (nthLoop (fnBody Try.f34) 0) spec_l01Src_points.sk2 spec_l01Src_points.xs2 d kn kx = spec_l01Src_points.l2 N d kn kx := by kernel_rfl
theorem spec_l01Src_points.i2 (N : Nat) : LoopsOk Try.prog (spec_l01Src_points.cfg N) (nthLoop (fnBody Try.f34) 0) := loopsL (l := []) (by kernel_rfl) trivial
theorem spec_l01Src_points.o2 (N : Nat) : LoopOk Try.prog (nthLoop (fnBody Try.f34) 0) (loopCon N spec_l01Src_points.sk2 spec_l01Src_points.xs2 (fun {R} => spec_l01Src_points.l2 (R := R) N)) := loop_ok (g := spec_l01Src_points.cfg N) tys_ok (spec_l01Src_points.cons N) mixed (spec_l01Src_points.i2 N) (fun d kn kx => spec_l01Src_points.h2 N d kn kx)
theorem spec_l01Src_points.ls (N : Nat) : LoopsOk Try.prog (spec_l01Src_points.cfg N) (fnBody Try.f34) := loopsL (l := [nthLoop (fnBody Try.f34) 0]) (by kernel_rfl) ⟨loopOne (L0 := loopCon N spec_l01Src_points.sk2 spec_l01Src_points.xs2 (fun {R} => spec_l01Src_points.l2 (R := R) N)) (id := 2) (by kernel_rfl) (by kernel_rfl) (spec_l01Src_points.o2 N), trivial⟩
theorem spec_l01Src_points.q2 {R R' : Type} {N n : Nat} {d} {k} {g : R → Option R'} : bindF (loopP (spec_l01Src_points.l2 N) n d k) g = loopP (spec_l01Src_points.l2 N) n d fun e => bindF (k e) g := bindF_loopP (fun d kn kx => by simp only [spec_l01Src_points.l2, bindF_ifB, bindF_bindO, bindF_pure, bindF_none, bindF_onSum]) n d k
theorem spec_l01Src_points.b (N : Nat) (x0 : den s51) (x1 : den (.int .i64)) : body (spec_l01Src_points.cfg N) N Try.f34 [.one, .one] [.io, .v] [(false, (.own .imm))] [⟨s51, .imm, x0⟩, ⟨(.int .i64), .imm, x1⟩] (fun r i => some (r, i)) = bindO (spec_l01Src_points N x0 x1) fun r => some ([⟨s26, (.own .imm), r.1⟩], [⟨s51, .imm, r.2⟩]) := by
  show _ = bindF _ _
  conv => rhs; simp only [spec_l01Src_points, bindF_ifB, bindF_bindO, bindF_pure, bindF_none, bindF_onSum, spec_l01Src_points.q2]
  kernel_rfl
theorem spec_l01Src_points.ok (N : Nat) : ConOk Try.prog 34 [.one, .one] (spec_l01Src_points.con N) := ok2 (g := spec_l01Src_points.cfg N) (N := N) (res := [(false, (.own .imm))]) tys_ok (spec_l01Src_points.cons N) mixed Try.func34 (spec_l01Src_points.ls N) rfl (spec_l01Src_points.b N)
theorem spec_l01Src_points.det (N : Nat) : ConDet (spec_l01Src_points.con N) := det2
def spec_l01Src_l04Ring.sk5 : Skel := ⟨.ptr 0 [] :: (dd 1 (.ptr 50 [] :: (.ptr 51 [] :: (.pv (.int .i64) :: (dd 66 []))))), [⟨0, s51, .imm, true, false⟩, ⟨50, s24, (.pr (.own (.own .imm)) .imm), true, false⟩, ⟨51, s24, (.pr (.own (.own .imm)) .imm), true, false⟩]⟩
def spec_l01Src_l04Ring.xs5 : List XS := [⟨.exit 0, [0, 2, 3], ⟨.ptr 0 [] :: (dd 1 (.ptr 50 [] :: (.ptr 51 [] :: (dd 67 [])))), [⟨0, s51, .imm, true, false⟩, ⟨50, s24, (.pr (.own (.own .imm)) .imm), true, false⟩, ⟨51, s24, (.pr (.own (.own .imm)) .imm), true, false⟩]⟩⟩]
def spec_l01Src_l04Ring.con (N : Nat) : Con := { modes := [.io], ptrs := [false], fn := fn1 s51 .imm (spec_l01Src_l04Ring N) (fun r => [⟨s24, (.pr (.own (.own .imm)) .imm), r.1⟩]) (fun r => [⟨s51, .imm, r.2⟩]) }
def spec_l01Src_l04Ring.cfg (N : Nat) : Cfg := { ty := tys, keep := [7, 9, 11, 21, 23, 35, 38, 40, 58, 45, 47], flt := [], elm := elm0, live := [(5, [0, 2, 3, 4])], ord := [(7, [0, 1, 2, 3, 4, 5, 6, 7, 8, 9, 10]), (14, [0, 1, 4, 2, 3, 5, 6, 7, 8, 9]), (12, [0, 1, 2, 3, 4, 5, 6, 7, 8, 9, 10])], con := [((32, [.one, .one]), spec_l01Src_n.con N), ((33, [.one, .one]), spec_l01Src_one.con N), ((34, [.one, .one]), spec_l01Src_points.con N)], loops := [(5, loopCon N spec_l01Src_l04Ring.sk5 spec_l01Src_l04Ring.xs5 (fun {R} => spec_l01Src_l04Ring.l5 (R := R) N))], joins := [] }
theorem spec_l01Src_l04Ring.cons (N : Nat) : ConsOk Try.prog (spec_l01Src_l04Ring.cfg N).con := (consOk_cons (hb32) (spec_l01Src_n.ok N) (spec_l01Src_n.det N) (consOk_cons (hb33) (spec_l01Src_one.ok N) (spec_l01Src_one.det N) (consOk_cons (hb34) (spec_l01Src_points.ok N) (spec_l01Src_points.det N) consOk_nil)))
theorem spec_l01Src_l04Ring.h5 {R : Type} (N : Nat) (d : spec_l01Src_l04Ring.sk5.D) (kn : spec_l01Src_l04Ring.sk5.D → Option R) (kx : XD spec_l01Src_l04Ring.xs5 → Option R) : roundK (spec_l01Src_l04Ring.cfg N) N (nthLoop (fnBody Try.f16) 0) spec_l01Src_l04Ring.sk5 spec_l01Src_l04Ring.xs5 d kn kx = spec_l01Src_l04Ring.l5 N d kn kx := by kernel_rfl
theorem spec_l01Src_l04Ring.i5 (N : Nat) : LoopsOk Try.prog (spec_l01Src_l04Ring.cfg N) (nthLoop (fnBody Try.f16) 0) := loopsL (l := []) (by kernel_rfl) trivial
theorem spec_l01Src_l04Ring.o5 (N : Nat) : LoopOk Try.prog (nthLoop (fnBody Try.f16) 0) (loopCon N spec_l01Src_l04Ring.sk5 spec_l01Src_l04Ring.xs5 (fun {R} => spec_l01Src_l04Ring.l5 (R := R) N)) := loop_ok (g := spec_l01Src_l04Ring.cfg N) tys_ok (spec_l01Src_l04Ring.cons N) mixed (spec_l01Src_l04Ring.i5 N) (fun d kn kx => spec_l01Src_l04Ring.h5 N d kn kx)
theorem spec_l01Src_l04Ring.ls (N : Nat) : LoopsOk Try.prog (spec_l01Src_l04Ring.cfg N) (fnBody Try.f16) := loopsL (l := [nthLoop (fnBody Try.f16) 0]) (by kernel_rfl) ⟨loopOne (L0 := loopCon N spec_l01Src_l04Ring.sk5 spec_l01Src_l04Ring.xs5 (fun {R} => spec_l01Src_l04Ring.l5 (R := R) N)) (id := 5) (by kernel_rfl) (by kernel_rfl) (spec_l01Src_l04Ring.o5 N), trivial⟩
theorem spec_l01Src_l04Ring.q5 {R R' : Type} {N n : Nat} {d} {k} {g : R → Option R'} : bindF (loopP (spec_l01Src_l04Ring.l5 N) n d k) g = loopP (spec_l01Src_l04Ring.l5 N) n d fun e => bindF (k e) g := bindF_loopP (fun d kn kx => by simp only [spec_l01Src_l04Ring.l5, bindF_ifB, bindF_bindO, bindF_pure, bindF_none, bindF_onSum]) n d k
theorem spec_l01Src_l04Ring.b (N : Nat) (x0 : den s51) : body (spec_l01Src_l04Ring.cfg N) N Try.f16 [.one] [.io] [(false, (.pr (.own (.own .imm)) .imm))] [⟨s51, .imm, x0⟩] (fun r i => some (r, i)) = bindO (spec_l01Src_l04Ring N x0) fun r => some ([⟨s24, (.pr (.own (.own .imm)) .imm), r.1⟩], [⟨s51, .imm, r.2⟩]) := by
  show _ = bindF _ _
  conv => rhs; simp only [spec_l01Src_l04Ring, bindF_ifB, bindF_bindO, bindF_pure, bindF_none, bindF_onSum, spec_l01Src_l04Ring.q5]
  kernel_rfl
theorem spec_l01Src_l04Ring.ok (N : Nat) : ConOk Try.prog 16 [.one] (spec_l01Src_l04Ring.con N) := ok1 (g := spec_l01Src_l04Ring.cfg N) (N := N) (res := [(false, (.pr (.own (.own .imm)) .imm))]) tys_ok (spec_l01Src_l04Ring.cons N) mixed Try.func16 (spec_l01Src_l04Ring.ls N) rfl (spec_l01Src_l04Ring.b N)
theorem spec_l01Src_l04Ring.det (N : Nat) : ConDet (spec_l01Src_l04Ring.con N) := det1
def spec_l01Src_some.con (N : Nat) : Con := { modes := [.io], ptrs := [false], fn := fn1 s51 .imm (spec_l01Src_some N) (fun r => [⟨s26, (.own .imm), r.1⟩]) (fun r => [⟨s51, .imm, r.2⟩]) }
def spec_l01Src_some.cfg (N : Nat) : Cfg := { ty := tys, keep := [11, 12, 14, 17, 19, 21, 25], flt := [], elm := elm0, live := [], ord := [], con := [((32, [.one, .one]), spec_l01Src_n.con N), ((34, [.one, .one]), spec_l01Src_points.con N), ((33, [.one, .one]), spec_l01Src_one.con N)], loops := [], joins := [] }
theorem spec_l01Src_some.cons (N : Nat) : ConsOk Try.prog (spec_l01Src_some.cfg N).con := (consOk_cons (hb32) (spec_l01Src_n.ok N) (spec_l01Src_n.det N) (consOk_cons (hb34) (spec_l01Src_points.ok N) (spec_l01Src_points.det N) (consOk_cons (hb33) (spec_l01Src_one.ok N) (spec_l01Src_one.det N) consOk_nil)))
theorem spec_l01Src_some.ls (N : Nat) : LoopsOk Try.prog (spec_l01Src_some.cfg N) (fnBody Try.f17) := loopsL (l := []) (by kernel_rfl) trivial
theorem spec_l01Src_some.b (N : Nat) (x0 : den s51) : body (spec_l01Src_some.cfg N) N Try.f17 [.one] [.io] [(false, (.own .imm))] [⟨s51, .imm, x0⟩] (fun r i => some (r, i)) = bindO (spec_l01Src_some N x0) fun r => some ([⟨s26, (.own .imm), r.1⟩], [⟨s51, .imm, r.2⟩]) := by
  show _ = bindF _ _
  conv => rhs; simp only [spec_l01Src_some, bindF_ifB, bindF_bindO, bindF_pure, bindF_none, bindF_onSum]
  kernel_rfl
theorem spec_l01Src_some.ok (N : Nat) : ConOk Try.prog 17 [.one] (spec_l01Src_some.con N) := ok1 (g := spec_l01Src_some.cfg N) (N := N) (res := [(false, (.own .imm))]) tys_ok (spec_l01Src_some.cons N) mixed Try.func17 (spec_l01Src_some.ls N) rfl (spec_l01Src_some.b N)
theorem spec_l01Src_some.det (N : Nat) : ConDet (spec_l01Src_some.con N) := det1
def spec_DrawRingPush.con (N : Nat) : Con := { modes := [.v], ptrs := [false, false], fn := fn1 s22 .imm (spec_DrawRingPush N) (fun r => [⟨s24, (.pr (.own (.own .imm)) .imm), r.1⟩, ⟨s26, (.own .imm), r.2⟩]) (fun r => []) }
def spec_DrawRingPush.cfg (N : Nat) : Cfg := { ty := tys, keep := [7, 9, 12], flt := [], elm := elm0, live := [], ord := [(3, [0, 1, 2, 3, 4])], con := [((15, [.one]), spec_l01Source.con N), ((16, [.one]), spec_l01Src_l04Ring.con N), ((17, [.one]), spec_l01Src_some.con N)], loops := [], joins := [] }
theorem spec_DrawRingPush.cons (N : Nat) : ConsOk Try.prog (spec_DrawRingPush.cfg N).con := (consOk_cons (hb15) (spec_l01Source.ok N) (spec_l01Source.det N) (consOk_cons (hb16) (spec_l01Src_l04Ring.ok N) (spec_l01Src_l04Ring.det N) (consOk_cons (hb17) (spec_l01Src_some.ok N) (spec_l01Src_some.det N) consOk_nil)))
theorem spec_DrawRingPush.ls (N : Nat) : LoopsOk Try.prog (spec_DrawRingPush.cfg N) (fnBody Try.f4) := loopsL (l := []) (by kernel_rfl) trivial
theorem spec_DrawRingPush.b (N : Nat) (x0 : den s22) : body (spec_DrawRingPush.cfg N) N Try.f4 [.one] [.v] [(false, (.pr (.own (.own .imm)) .imm)), (false, (.own .imm))] [⟨s22, .imm, x0⟩] (fun r i => some (r, i)) = bindO (spec_DrawRingPush N x0) fun r => some ([⟨s24, (.pr (.own (.own .imm)) .imm), r.1⟩, ⟨s26, (.own .imm), r.2⟩], []) := by
  show _ = bindF _ _
  conv => rhs; simp only [spec_DrawRingPush, bindF_ifB, bindF_bindO, bindF_pure, bindF_none, bindF_onSum]
  kernel_rfl
theorem spec_DrawRingPush.ok (N : Nat) : ConOk Try.prog 4 [.one] (spec_DrawRingPush.con N) := ok1 (g := spec_DrawRingPush.cfg N) (N := N) (res := [(false, (.pr (.own (.own .imm)) .imm)), (false, (.own .imm))]) tys_ok (spec_DrawRingPush.cons N) mixed Try.func4 (spec_DrawRingPush.ls N) rfl (spec_DrawRingPush.b N)
theorem spec_DrawRingPush.det (N : Nat) : ConDet (spec_DrawRingPush.con N) := det1
def spec_l01Point.con (N : Nat) : Con := { modes := [.v], ptrs := [false], fn := fn1 (.int .i64) .imm (spec_l01Point N) (fun r => [⟨.bool, .imm, r⟩]) (fun r => []) }
def spec_l01Point.cfg (N : Nat) : Cfg := { ty := tys, keep := [], flt := [], elm := elm0, live := [], ord := [], con := [], loops := [], joins := [] }
theorem spec_l01Point.cons (N : Nat) : ConsOk Try.prog (spec_l01Point.cfg N).con := consOk_nil
theorem spec_l01Point.ls (N : Nat) : LoopsOk Try.prog (spec_l01Point.cfg N) (fnBody Try.f27) := loopsL (l := []) (by kernel_rfl) trivial
theorem spec_l01Point.b (N : Nat) (x0 : den (.int .i64)) : body (spec_l01Point.cfg N) N Try.f27 [.one] [.v] [(false, .imm)] [⟨(.int .i64), .imm, x0⟩] (fun r i => some (r, i)) = bindO (spec_l01Point N x0) fun r => some ([⟨.bool, .imm, r⟩], []) := by
  show _ = bindF _ _
  conv => rhs; simp only [spec_l01Point, bindF_ifB, bindF_bindO, bindF_pure, bindF_none, bindF_onSum]
  kernel_rfl
theorem spec_l01Point.ok (N : Nat) : ConOk Try.prog 27 [.one] (spec_l01Point.con N) := ok1 (g := spec_l01Point.cfg N) (N := N) (res := [(false, .imm)]) tys_ok (spec_l01Point.cons N) mixed Try.func27 (spec_l01Point.ls N) rfl (spec_l01Point.b N)
theorem spec_l01Point.det (N : Nat) : ConDet (spec_l01Point.con N) := det1
def spec_PointsRight.sk4 : Skel := ⟨.pv s26 :: (dd 2 (.pv (.int .i64) :: (dd 15 []))), []⟩
def spec_PointsRight.xs4 : List XS := [⟨.exit 0, [], ⟨dd 19 [], []⟩⟩, ⟨.ret, [2], ⟨dd 2 (.pv .bool :: (dd 16 [])), []⟩⟩]
def spec_PointsRight.con (N : Nat) : Con := { modes := [.v], ptrs := [false], fn := fn1 s26 .imm (spec_PointsRight N) (fun r => [⟨.bool, .imm, r⟩]) (fun r => []) }
def spec_PointsRight.cfg (N : Nat) : Cfg := { ty := tys, keep := [17], flt := [], elm := elm0, live := [(4, [0, 3])], ord := [], con := [((27, [.one]), spec_l01Point.con N)], loops := [(4, loopCon N spec_PointsRight.sk4 spec_PointsRight.xs4 (fun {R} => spec_PointsRight.l4 (R := R) N))], joins := [] }
theorem spec_PointsRight.cons (N : Nat) : ConsOk Try.prog (spec_PointsRight.cfg N).con := (consOk_cons (hb27) (spec_l01Point.ok N) (spec_l01Point.det N) consOk_nil)
theorem spec_PointsRight.h4 {R : Type} (N : Nat) (d : spec_PointsRight.sk4.D) (kn : spec_PointsRight.sk4.D → Option R) (kx : XD spec_PointsRight.xs4 → Option R) : roundK (spec_PointsRight.cfg N) N (nthLoop (fnBody Try.f10) 0) spec_PointsRight.sk4 spec_PointsRight.xs4 d kn kx = spec_PointsRight.l4 N d kn kx := by kernel_rfl
theorem spec_PointsRight.i4 (N : Nat) : LoopsOk Try.prog (spec_PointsRight.cfg N) (nthLoop (fnBody Try.f10) 0) := loopsL (l := []) (by kernel_rfl) trivial
theorem spec_PointsRight.o4 (N : Nat) : LoopOk Try.prog (nthLoop (fnBody Try.f10) 0) (loopCon N spec_PointsRight.sk4 spec_PointsRight.xs4 (fun {R} => spec_PointsRight.l4 (R := R) N)) := loop_ok (g := spec_PointsRight.cfg N) tys_ok (spec_PointsRight.cons N) mixed (spec_PointsRight.i4 N) (fun d kn kx => spec_PointsRight.h4 N d kn kx)
theorem spec_PointsRight.ls (N : Nat) : LoopsOk Try.prog (spec_PointsRight.cfg N) (fnBody Try.f10) := loopsL (l := [nthLoop (fnBody Try.f10) 0]) (by kernel_rfl) ⟨loopOne (L0 := loopCon N spec_PointsRight.sk4 spec_PointsRight.xs4 (fun {R} => spec_PointsRight.l4 (R := R) N)) (id := 4) (by kernel_rfl) (by kernel_rfl) (spec_PointsRight.o4 N), trivial⟩
theorem spec_PointsRight.q4 {R R' : Type} {N n : Nat} {d} {k} {g : R → Option R'} : bindF (loopP (spec_PointsRight.l4 N) n d k) g = loopP (spec_PointsRight.l4 N) n d fun e => bindF (k e) g := bindF_loopP (fun d kn kx => by simp only [spec_PointsRight.l4, bindF_ifB, bindF_bindO, bindF_pure, bindF_none, bindF_onSum]) n d k
theorem spec_PointsRight.b (N : Nat) (x0 : den s26) : body (spec_PointsRight.cfg N) N Try.f10 [.one] [.v] [(false, .imm)] [⟨s26, .imm, x0⟩] (fun r i => some (r, i)) = bindO (spec_PointsRight N x0) fun r => some ([⟨.bool, .imm, r⟩], []) := by
  show _ = bindF _ _
  conv => rhs; simp only [spec_PointsRight, bindF_ifB, bindF_bindO, bindF_pure, bindF_none, bindF_onSum, spec_PointsRight.q4]
  kernel_rfl
theorem spec_PointsRight.ok (N : Nat) : ConOk Try.prog 10 [.one] (spec_PointsRight.con N) := ok1 (g := spec_PointsRight.cfg N) (N := N) (res := [(false, .imm)]) tys_ok (spec_PointsRight.cons N) mixed Try.func10 (spec_PointsRight.ls N) rfl (spec_PointsRight.b N)
theorem spec_PointsRight.det (N : Nat) : ConDet (spec_PointsRight.con N) := det1
def spec_l04Items.sk4 : Skel := ⟨.pv s23 :: (dd 4 (.pv (.int .i64) :: (dd 24 []))), []⟩
def spec_l04Items.xs4 : List XS := [⟨.exit 0, [], ⟨dd 30 [], []⟩⟩, ⟨.ret, [4], ⟨dd 4 (.pv .bool :: (dd 25 [])), []⟩⟩]
def spec_l04Items.con (N : Nat) : Con := { modes := [.v, .v], ptrs := [false], fn := fn2 s23 .imm (.int .i64) .imm (spec_l04Items N) (fun r => [⟨.bool, .imm, r⟩]) (fun r => []) }
def spec_l04Items.cfg (N : Nat) : Cfg := { ty := tys, keep := [27], flt := [], elm := elm0, live := [(4, [0, 5, 23, 24, 25, 26, 27, 28])], ord := [], con := [((10, [.one]), spec_PointsRight.con N)], loops := [(4, loopCon N spec_l04Items.sk4 spec_l04Items.xs4 (fun {R} => spec_l04Items.l4 (R := R) N))], joins := [] }
theorem spec_l04Items.cons (N : Nat) : ConsOk Try.prog (spec_l04Items.cfg N).con := (consOk_cons (hb10) (spec_PointsRight.ok N) (spec_PointsRight.det N) consOk_nil)
theorem spec_l04Items.h4 {R : Type} (N : Nat) (d : spec_l04Items.sk4.D) (kn : spec_l04Items.sk4.D → Option R) (kx : XD spec_l04Items.xs4 → Option R) : roundK (spec_l04Items.cfg N) N (nthLoop (fnBody Try.f26) 0) spec_l04Items.sk4 spec_l04Items.xs4 d kn kx = spec_l04Items.l4 N d kn kx := by kernel_rfl
theorem spec_l04Items.i4 (N : Nat) : LoopsOk Try.prog (spec_l04Items.cfg N) (nthLoop (fnBody Try.f26) 0) := loopsL (l := []) (by kernel_rfl) trivial
theorem spec_l04Items.o4 (N : Nat) : LoopOk Try.prog (nthLoop (fnBody Try.f26) 0) (loopCon N spec_l04Items.sk4 spec_l04Items.xs4 (fun {R} => spec_l04Items.l4 (R := R) N)) := loop_ok (g := spec_l04Items.cfg N) tys_ok (spec_l04Items.cons N) mixed (spec_l04Items.i4 N) (fun d kn kx => spec_l04Items.h4 N d kn kx)
theorem spec_l04Items.ls (N : Nat) : LoopsOk Try.prog (spec_l04Items.cfg N) (fnBody Try.f26) := loopsL (l := [nthLoop (fnBody Try.f26) 0]) (by kernel_rfl) ⟨loopOne (L0 := loopCon N spec_l04Items.sk4 spec_l04Items.xs4 (fun {R} => spec_l04Items.l4 (R := R) N)) (id := 4) (by kernel_rfl) (by kernel_rfl) (spec_l04Items.o4 N), trivial⟩
theorem spec_l04Items.q4 {R R' : Type} {N n : Nat} {d} {k} {g : R → Option R'} : bindF (loopP (spec_l04Items.l4 N) n d k) g = loopP (spec_l04Items.l4 N) n d fun e => bindF (k e) g := bindF_loopP (fun d kn kx => by simp only [spec_l04Items.l4, bindF_ifB, bindF_bindO, bindF_pure, bindF_none, bindF_onSum]) n d k
theorem spec_l04Items.b (N : Nat) (x0 : den s23) (x1 : den (.int .i64)) : body (spec_l04Items.cfg N) N Try.f26 [.one, .one] [.v, .v] [(false, .imm)] [⟨s23, .imm, x0⟩, ⟨(.int .i64), .imm, x1⟩] (fun r i => some (r, i)) = bindO (spec_l04Items N x0 x1) fun r => some ([⟨.bool, .imm, r⟩], []) := by
  show _ = bindF _ _
  conv => rhs; simp only [spec_l04Items, bindF_ifB, bindF_bindO, bindF_pure, bindF_none, bindF_onSum, spec_l04Items.q4]
  kernel_rfl
theorem spec_l04Items.ok (N : Nat) : ConOk Try.prog 26 [.one, .one] (spec_l04Items.con N) := ok2 (g := spec_l04Items.cfg N) (N := N) (res := [(false, .imm)]) tys_ok (spec_l04Items.cons N) mixed Try.func26 (spec_l04Items.ls N) rfl (spec_l04Items.b N)
theorem spec_l04Items.det (N : Nat) : ConDet (spec_l04Items.con N) := det2
def spec_RingRight.con (N : Nat) : Con := { modes := [.v], ptrs := [false], fn := fn1 s24 .imm (spec_RingRight N) (fun r => [⟨.bool, .imm, r⟩]) (fun r => []) }
def spec_RingRight.cfg (N : Nat) : Cfg := { ty := tys, keep := [5], flt := [], elm := elm0, live := [], ord := [], con := [((26, [.one, .one]), spec_l04Items.con N)], loops := [], joins := [] }
theorem spec_RingRight.cons (N : Nat) : ConsOk Try.prog (spec_RingRight.cfg N).con := (consOk_cons (hb26) (spec_l04Items.ok N) (spec_l04Items.det N) consOk_nil)
theorem spec_RingRight.ls (N : Nat) : LoopsOk Try.prog (spec_RingRight.cfg N) (fnBody Try.f9) := loopsL (l := []) (by kernel_rfl) trivial
theorem spec_RingRight.b (N : Nat) (x0 : den s24) : body (spec_RingRight.cfg N) N Try.f9 [.one] [.v] [(false, .imm)] [⟨s24, .imm, x0⟩] (fun r i => some (r, i)) = bindO (spec_RingRight N x0) fun r => some ([⟨.bool, .imm, r⟩], []) := by
  show _ = bindF _ _
  conv => rhs; simp only [spec_RingRight, bindF_ifB, bindF_bindO, bindF_pure, bindF_none, bindF_onSum]
  kernel_rfl
theorem spec_RingRight.ok (N : Nat) : ConOk Try.prog 9 [.one] (spec_RingRight.con N) := ok1 (g := spec_RingRight.cfg N) (N := N) (res := [(false, .imm)]) tys_ok (spec_RingRight.cons N) mixed Try.func9 (spec_RingRight.ls N) rfl (spec_RingRight.b N)
theorem spec_RingRight.det (N : Nat) : ConDet (spec_RingRight.con N) := det1
end Go.AE.F
end
