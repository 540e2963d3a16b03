/- The printed functions are what the program comes to: contracts. -/
import Derived.Test.YtjdehlkgnbcedaaLSpotsF3
import Derived.Test.YtjdehlkgnbcedaaLSpotsT
noncomputable section
namespace Go.AE.F
open Go.AE Go.Proofs
set_option maxRecDepth 100000
def spec_l01Source.sk3 : Skel := ⟨.pv s22 :: (dd 2 (.ptr 50 [] :: (.pv (.int .i64) :: (dd 42 [])))), [⟨50, s55, .imm, true, false⟩]⟩
def spec_l01Source.xs3 : List XS := [⟨.exit 0, [0, 3], ⟨.pv s22 :: (dd 2 (.ptr 50 [] :: (dd 43 []))), [⟨50, s55, .imm, true, false⟩]⟩⟩]
def spec_l01Source.con (N : Nat) : Con := { modes := [.v], ptrs := [true], fn := fn1 s22 .imm (spec_l01Source N) (fun r => [⟨s55, .imm, r⟩]) (fun r => []) }
def spec_l01Source.cfg (N : Nat) : Cfg := { ty := tys, keep := [], flt := [], elm := elm0, live := [(3, [0, 3, 4])], ord := [(5, [0, 1, 2, 3, 4, 5, 6, 7, 8, 9, 10, 11, 12, 13, 14])], con := [], loops := [(3, loopCon N spec_l01Source.sk3 spec_l01Source.xs3 (fun {R} => spec_l01Source.l3 (R := R) N))], joins := [] }
theorem spec_l01Source.cons (N : Nat) : ConsOk Try.prog (spec_l01Source.cfg N).con := consOk_nil
theorem spec_l01Source.h3 {R : Type} (N : Nat) (d : spec_l01Source.sk3.D) (kn : spec_l01Source.sk3.D → Option R) (kx : XD spec_l01Source.xs3 → Option R) : roundK (spec_l01Source.cfg N) N (nthLoop (fnBody Try.f10) 0) spec_l01Source.sk3 spec_l01Source.xs3 d kn kx = spec_l01Source.l3 N d kn kx := by kernel_rfl
theorem spec_l01Source.i3 (N : Nat) : LoopsOk Try.prog (spec_l01Source.cfg N) (nthLoop (fnBody Try.f10) 0) := loopsL (l := []) (by kernel_rfl) trivial
theorem spec_l01Source.o3 (N : Nat) : LoopOk Try.prog (nthLoop (fnBody Try.f10) 0) (loopCon N spec_l01Source.sk3 spec_l01Source.xs3 (fun {R} => spec_l01Source.l3 (R := R) N)) := loop_ok (g := spec_l01Source.cfg N) tys_ok (spec_l01Source.cons N) mixed (spec_l01Source.i3 N) (fun d kn kx => spec_l01Source.h3 N d kn kx)
theorem spec_l01Source.ls (N : Nat) : LoopsOk Try.prog (spec_l01Source.cfg N) (fnBody Try.f10) := loopsL (l := [nthLoop (fnBody Try.f10) 0]) (by kernel_rfl) ⟨loopOne (L0 := loopCon N spec_l01Source.sk3 spec_l01Source.xs3 (fun {R} => spec_l01Source.l3 (R := R) N)) (id := 3) (by kernel_rfl) (by kernel_rfl) (spec_l01Source.o3 N), trivial⟩
theorem spec_l01Source.q3 {R R' : Type} {N n : Nat} {d} {k} {g : R → Option R'} : bindF (loopP (spec_l01Source.l3 N) n d k) g = loopP (spec_l01Source.l3 N) n d fun e => bindF (k e) g := bindF_loopP (fun d kn kx => by simp only [spec_l01Source.l3, bindF_ifB, bindF_bindO, bindF_pure, bindF_none, bindF_onSum]) n d k
theorem spec_l01Source.b (N : Nat) (x0 : den s22) : body (spec_l01Source.cfg N) N Try.f10 [.one] [.v] [(true, .imm)] [⟨s22, .imm, x0⟩] (fun r i => some (r, i)) = bindO (spec_l01Source N x0) fun r => some ([⟨s55, .imm, r⟩], []) := by
  show _ = bindF _ _
  conv => rhs; simp only [spec_l01Source, bindF_ifB, bindF_bindO, bindF_pure, bindF_none, bindF_onSum, spec_l01Source.q3]
  kernel_rfl
theorem spec_l01Source.ok (N : Nat) : ConOk Try.prog 10 [.one] (spec_l01Source.con N) := ok1 (g := spec_l01Source.cfg N) (N := N) (res := [(true, .imm)]) tys_ok (spec_l01Source.cons N) mixed Try.func10 (spec_l01Source.ls N) rfl (spec_l01Source.b N)
theorem spec_l01Source.det (N : Nat) : ConDet (spec_l01Source.con N) := det1
def spec_l01Src_n.con (N : Nat) : Con := { modes := [.io, .v], ptrs := [false], fn := fn2 s55 .imm (.int .i64) .imm (spec_l01Src_n N) (fun r => [⟨(.int .i64), .imm, r.1⟩]) (fun r => [⟨s55, .imm, r.2⟩]) }
def spec_l01Src_n.cfg (N : Nat) : Cfg := { ty := tys, keep := [], flt := [], elm := elm0, live := [], ord := [(4, [0, 1, 2, 3, 4, 5, 6, 7, 8, 9]), (5, [0, 1, 2, 3, 4, 5, 6, 7, 8, 9, 10, 11]), (7, [0, 1, 2, 3, 4, 5, 6, 7, 8, 9, 10, 11, 12, 13]), (8, [0, 1, 2, 3, 4, 5, 6, 7, 8, 9, 10, 11, 12, 13]), (9, [0, 1, 2, 3, 4, 5, 6, 7, 8, 9, 10, 11, 12, 13])], con := [], loops := [], joins := [] }
theorem spec_l01Src_n.cons (N : Nat) : ConsOk Try.prog (spec_l01Src_n.cfg N).con := consOk_nil
theorem spec_l01Src_n.ls (N : Nat) : LoopsOk Try.prog (spec_l01Src_n.cfg N) (fnBody Try.f23) := loopsL (l := []) (by kernel_rfl) trivial
theorem spec_l01Src_n.b (N : Nat) (x0 : den s55) (x1 : den (.int .i64)) : body (spec_l01Src_n.cfg N) N Try.f23 [.one, .one] [.io, .v] [(false, .imm)] [⟨s55, .imm, x0⟩, ⟨(.int .i64), .imm, x1⟩] (fun r i => some (r, i)) = bindO (spec_l01Src_n N x0 x1) fun r => some ([⟨(.int .i64), .imm, r.1⟩], [⟨s55, .imm, r.2⟩]) := by
  show _ = bindF _ _
  conv => rhs; simp only [spec_l01Src_n, bindF_ifB, bindF_bindO, bindF_pure, bindF_none, bindF_onSum]
  kernel_rfl
theorem spec_l01Src_n.ok (N : Nat) : ConOk Try.prog 23 [.one, .one] (spec_l01Src_n.con N) := ok2 (g := spec_l01Src_n.cfg N) (N := N) (res := [(false, .imm)]) tys_ok (spec_l01Src_n.cons N) mixed Try.func23 (spec_l01Src_n.ls N) rfl (spec_l01Src_n.b N)
theorem spec_l01Src_n.det (N : Nat) : ConDet (spec_l01Src_n.con N) := det2
def spec_l01Src_point.con (N : Nat) : Con := { modes := [.io], ptrs := [false], fn := fn1 s55 .imm (spec_l01Src_point N) (fun r => [⟨(.int .i64), .imm, r.1⟩]) (fun r => [⟨s55, .imm, r.2⟩]) }
def spec_l01Src_point.cfg (N : Nat) : Cfg := { ty := tys, keep := [4, 13, 20, 27, 34, 40, 43], flt := [], elm := elm0, live := [], ord := [], con := [((23, [.one, .one]), spec_l01Src_n.con N)], loops := [], joins := [] }
theorem spec_l01Src_point.cons (N : Nat) : ConsOk Try.prog (spec_l01Src_point.cfg N).con := (consOk_cons (hb23) (spec_l01Src_n.ok N) (spec_l01Src_n.det N) consOk_nil)
theorem spec_l01Src_point.ls (N : Nat) : LoopsOk Try.prog (spec_l01Src_point.cfg N) (fnBody Try.f38) := loopsL (l := []) (by kernel_rfl) trivial
theorem spec_l01Src_point.b (N : Nat) (x0 : den s55) : body (spec_l01Src_point.cfg N) N Try.f38 [.one] [.io] [(false, .imm)] [⟨s55, .imm, x0⟩] (fun r i => some (r, i)) = bindO (spec_l01Src_point N x0) fun r => some ([⟨(.int .i64), .imm, r.1⟩], [⟨s55, .imm, r.2⟩]) := by
  show _ = bindF _ _
  conv => rhs; simp only [spec_l01Src_point, bindF_ifB, bindF_bindO, bindF_pure, bindF_none, bindF_onSum]
  kernel_rfl
theorem spec_l01Src_point.ok (N : Nat) : ConOk Try.prog 38 [.one] (spec_l01Src_point.con N) := ok1 (g := spec_l01Src_point.cfg N) (N := N) (res := [(false, .imm)]) tys_ok (spec_l01Src_point.cons N) mixed Try.func38 (spec_l01Src_point.ls N) rfl (spec_l01Src_point.b N)
theorem spec_l01Src_point.det (N : Nat) : ConDet (spec_l01Src_point.con N) := det1
def spec_l01Src_points.sk2 : Skel := ⟨.ptr 0 [] :: (.pv (.int .i64) :: (dd 3 (.ov 50 [] :: (dd 11 [])))), [⟨0, s55, .imm, true, false⟩, ⟨50, s23, (.own .imm), false, false⟩]⟩
def spec_l01Src_points.xs2 : List XS := [⟨.exit 0, [5], ⟨dd 5 (.ov 50 [] :: (dd 11 [])), [⟨0, s55, .imm, true, false⟩, ⟨50, s23, (.own .imm), false, false⟩]⟩⟩]
def spec_l01Src_points.con (N : Nat) : Con := { modes := [.io, .v], ptrs := [false], fn := fn2 s55 .imm (.int .i64) .imm (spec_l01Src_points N) (fun r => [⟨s23, (.own .imm), r.1⟩]) (fun r => [⟨s55, .imm, r.2⟩]) }
def spec_l01Src_points.cfg (N : Nat) : Cfg := { ty := tys, keep := [13], flt := [], elm := elm0, live := [(2, [0, 1, 5])], ord := [], con := [((38, [.one]), spec_l01Src_point.con N)], loops := [(2, loopCon N spec_l01Src_points.sk2 spec_l01Src_points.xs2 (fun {R} => spec_l01Src_points.l2 (R := R) N))], joins := [] }
theorem spec_l01Src_points.cons (N : Nat) : ConsOk Try.prog (spec_l01Src_points.cfg N).con := (consOk_cons (hb38) (spec_l01Src_point.ok N) (spec_l01Src_point.det N) consOk_nil)
theorem spec_l01Src_points.h2 {R : Type} (N : Nat) (d : spec_l01Src_points.sk2.D) (kn : spec_l01Src_points.sk2.D → Option R) (kx : XD spec_l01Src_points.xs2 → Option R) : roundK (spec_l01Src_points.cfg N) N (nthLoop (fnBody Try.f22) 0) spec_l01Src_points.sk2 spec_l01Src_points.xs2 d kn kx = spec_l01Src_points.l2 N d kn kx := by kernel_rfl
theorem spec_l01Src_points.i2 (N : Nat) : LoopsOk Try.prog (spec_l01Src_points.cfg N) (nthLoop (fnBody Try.f22) 0) := loopsL (l := []) (by kernel_rfl) trivial
theorem spec_l01Src_points.o2 (N : Nat) : LoopOk Try.prog (nthLoop (fnBody Try.f22) 0) (loopCon N spec_l01Src_points.sk2 spec_l01Src_points.xs2 (fun {R} => spec_l01Src_points.l2 (R := R) N)) := loop_ok (g := spec_l01Src_points.cfg N) tys_ok (spec_l01Src_points.cons N) mixed (spec_l01Src_points.i2 N) (fun d kn kx => spec_l01Src_points.h2 N d kn kx)
theorem spec_l01Src_points.ls (N : Nat) : LoopsOk Try.prog (spec_l01Src_points.cfg N) (fnBody Try.f22) := loopsL (l := [nthLoop (fnBody Try.f22) 0]) (by kernel_rfl) ⟨loopOne (L0 := loopCon N spec_l01Src_points.sk2 spec_l01Src_points.xs2 (fun {R} => spec_l01Src_points.l2 (R := R) N)) (id := 2) (by kernel_rfl) (by kernel_rfl) (spec_l01Src_points.o2 N), trivial⟩
theorem spec_l01Src_points.q2 {R R' : Type} {N n : Nat} {d} {k} {g : R → Option R'} : bindF (loopP (spec_l01Src_points.l2 N) n d k) g = loopP (spec_l01Src_points.l2 N) n d fun e => bindF (k e) g := bindF_loopP (fun d kn kx => by simp only [spec_l01Src_points.l2, bindF_ifB, bindF_bindO, bindF_pure, bindF_none, bindF_onSum]) n d k
theorem spec_l01Src_points.b (N : Nat) (x0 : den s55) (x1 : den (.int .i64)) : body (spec_l01Src_points.cfg N) N Try.f22 [.one, .one] [.io, .v] [(false, (.own .imm))] [⟨s55, .imm, x0⟩, ⟨(.int .i64), .imm, x1⟩] (fun r i => some (r, i)) = bindO (spec_l01Src_points N x0 x1) fun r => some ([⟨s23, (.own .imm), r.1⟩], [⟨s55, .imm, r.2⟩]) := by
  show _ = bindF _ _
  conv => rhs; simp only [spec_l01Src_points, bindF_ifB, bindF_bindO, bindF_pure, bindF_none, bindF_onSum, spec_l01Src_points.q2]
  kernel_rfl
theorem spec_l01Src_points.ok (N : Nat) : ConOk Try.prog 22 [.one, .one] (spec_l01Src_points.con N) := ok2 (g := spec_l01Src_points.cfg N) (N := N) (res := [(false, (.own .imm))]) tys_ok (spec_l01Src_points.cons N) mixed Try.func22 (spec_l01Src_points.ls N) rfl (spec_l01Src_points.b N)
theorem spec_l01Src_points.det (N : Nat) : ConDet (spec_l01Src_points.con N) := det2
def spec_l01Src_one.con (N : Nat) : Con := { modes := [.io, .v], ptrs := [false], fn := fn2 s55 .imm (.int .i64) .imm (spec_l01Src_one N) (fun r => [⟨.bool, .imm, r.1⟩]) (fun r => [⟨s55, .imm, r.2⟩]) }
def spec_l01Src_one.cfg (N : Nat) : Cfg := { ty := tys, keep := [7], flt := [], elm := elm0, live := [], ord := [], con := [((23, [.one, .one]), spec_l01Src_n.con N)], loops := [], joins := [] }
theorem spec_l01Src_one.cons (N : Nat) : ConsOk Try.prog (spec_l01Src_one.cfg N).con := (consOk_cons (hb23) (spec_l01Src_n.ok N) (spec_l01Src_n.det N) consOk_nil)
theorem spec_l01Src_one.ls (N : Nat) : LoopsOk Try.prog (spec_l01Src_one.cfg N) (fnBody Try.f24) := loopsL (l := []) (by kernel_rfl) trivial
theorem spec_l01Src_one.b (N : Nat) (x0 : den s55) (x1 : den (.int .i64)) : body (spec_l01Src_one.cfg N) N Try.f24 [.one, .one] [.io, .v] [(false, .imm)] [⟨s55, .imm, x0⟩, ⟨(.int .i64), .imm, x1⟩] (fun r i => some (r, i)) = bindO (spec_l01Src_one N x0 x1) fun r => some ([⟨.bool, .imm, r.1⟩], [⟨s55, .imm, r.2⟩]) := by
  show _ = bindF _ _
  conv => rhs; simp only [spec_l01Src_one, bindF_ifB, bindF_bindO, bindF_pure, bindF_none, bindF_onSum]
  kernel_rfl
theorem spec_l01Src_one.ok (N : Nat) : ConOk Try.prog 24 [.one, .one] (spec_l01Src_one.con N) := ok2 (g := spec_l01Src_one.cfg N) (N := N) (res := [(false, .imm)]) tys_ok (spec_l01Src_one.cons N) mixed Try.func24 (spec_l01Src_one.ls N) rfl (spec_l01Src_one.b N)
theorem spec_l01Src_one.det (N : Nat) : ConDet (spec_l01Src_one.con N) := det2
def spec_l01Src_l09Prompt.con (N : Nat) : Con := { modes := [.io], ptrs := [false], fn := fn1 s55 .imm (spec_l01Src_l09Prompt N) (fun r => [⟨s23, (.own .imm), r.1⟩]) (fun r => [⟨s55, .imm, r.2⟩]) }
def spec_l01Src_l09Prompt.cfg (N : Nat) : Cfg := { ty := tys, keep := [6, 7, 9], flt := [], elm := elm0, live := [], ord := [], con := [((23, [.one, .one]), spec_l01Src_n.con N), ((22, [.one, .one]), spec_l01Src_points.con N), ((24, [.one, .one]), spec_l01Src_one.con N)], loops := [], joins := [] }
theorem spec_l01Src_l09Prompt.cons (N : Nat) : ConsOk Try.prog (spec_l01Src_l09Prompt.cfg N).con := (consOk_cons (hb23) (spec_l01Src_n.ok N) (spec_l01Src_n.det N) (consOk_cons (hb22) (spec_l01Src_points.ok N) (spec_l01Src_points.det N) (consOk_cons (hb24) (spec_l01Src_one.ok N) (spec_l01Src_one.det N) consOk_nil)))
theorem spec_l01Src_l09Prompt.ls (N : Nat) : LoopsOk Try.prog (spec_l01Src_l09Prompt.cfg N) (fnBody Try.f11) := loopsL (l := []) (by kernel_rfl) trivial
theorem spec_l01Src_l09Prompt.b (N : Nat) (x0 : den s55) : body (spec_l01Src_l09Prompt.cfg N) N Try.f11 [.one] [.io] [(false, (.own .imm))] [⟨s55, .imm, x0⟩] (fun r i => some (r, i)) = bindO (spec_l01Src_l09Prompt N x0) fun r => some ([⟨s23, (.own .imm), r.1⟩], [⟨s55, .imm, r.2⟩]) := by
  show _ = bindF _ _
  conv => rhs; simp only [spec_l01Src_l09Prompt, bindF_ifB, bindF_bindO, bindF_pure, bindF_none, bindF_onSum]
  kernel_rfl
theorem spec_l01Src_l09Prompt.ok (N : Nat) : ConOk Try.prog 11 [.one] (spec_l01Src_l09Prompt.con N) := ok1 (g := spec_l01Src_l09Prompt.cfg N) (N := N) (res := [(false, (.own .imm))]) tys_ok (spec_l01Src_l09Prompt.cons N) mixed Try.func11 (spec_l01Src_l09Prompt.ls N) rfl (spec_l01Src_l09Prompt.b N)
theorem spec_l01Src_l09Prompt.det (N : Nat) : ConDet (spec_l01Src_l09Prompt.con N) := det1
def spec_l01Src_l02Buf.con (N : Nat) : Con := { modes := [.io], ptrs := [false], fn := fn1 s55 .imm (spec_l01Src_l02Buf N) (fun r => [⟨s24, (.pr (.own .imm) .imm), r.1⟩]) (fun r => [⟨s55, .imm, r.2⟩]) }
def spec_l01Src_l02Buf.cfg (N : Nat) : Cfg := { ty := tys, keep := [13, 14, 17, 20, 22, 30, 35, 38, 40, 52, 62], flt := [], elm := elm0, live := [], ord := [], con := [((23, [.one, .one]), spec_l01Src_n.con N), ((22, [.one, .one]), spec_l01Src_points.con N), ((24, [.one, .one]), spec_l01Src_one.con N)], loops := [], joins := [] }
theorem spec_l01Src_l02Buf.cons (N : Nat) : ConsOk Try.prog (spec_l01Src_l02Buf.cfg N).con := (consOk_cons (hb23) (spec_l01Src_n.ok N) (spec_l01Src_n.det N) (consOk_cons (hb22) (spec_l01Src_points.ok N) (spec_l01Src_points.det N) (consOk_cons (hb24) (spec_l01Src_one.ok N) (spec_l01Src_one.det N) consOk_nil)))
theorem spec_l01Src_l02Buf.ls (N : Nat) : LoopsOk Try.prog (spec_l01Src_l02Buf.cfg N) (fnBody Try.f12) := loopsL (l := []) (by kernel_rfl) trivial
theorem spec_l01Src_l02Buf.b (N : Nat) (x0 : den s55) : body (spec_l01Src_l02Buf.cfg N) N Try.f12 [.one] [.io] [(false, (.pr (.own .imm) .imm))] [⟨s55, .imm, x0⟩] (fun r i => some (r, i)) = bindO (spec_l01Src_l02Buf N x0) fun r => some ([⟨s24, (.pr (.own .imm) .imm), r.1⟩], [⟨s55, .imm, r.2⟩]) := by
  show _ = bindF _ _
  conv => rhs; simp only [spec_l01Src_l02Buf, bindF_ifB, bindF_bindO, bindF_pure, bindF_none, bindF_onSum]
  kernel_rfl
theorem spec_l01Src_l02Buf.ok (N : Nat) : ConOk Try.prog 12 [.one] (spec_l01Src_l02Buf.con N) := ok1 (g := spec_l01Src_l02Buf.cfg N) (N := N) (res := [(false, (.pr (.own .imm) .imm))]) tys_ok (spec_l01Src_l02Buf.cons N) mixed Try.func12 (spec_l01Src_l02Buf.ls N) rfl (spec_l01Src_l02Buf.b N)
theorem spec_l01Src_l02Buf.det (N : Nat) : ConDet (spec_l01Src_l02Buf.con N) := det1
def spec_l01Src_l09Cols.con (N : Nat) : Con := { modes := [.io], ptrs := [false], fn := fn1 s55 .imm (spec_l01Src_l09Cols N) (fun r => [⟨(.int .i64), .imm, r.1⟩]) (fun r => [⟨s55, .imm, r.2⟩]) }
def spec_l01Src_l09Cols.cfg (N : Nat) : Cfg := { ty := tys, keep := [4, 7, 11], flt := [], elm := elm0, live := [], ord := [], con := [((24, [.one, .one]), spec_l01Src_one.con N), ((23, [.one, .one]), spec_l01Src_n.con N)], loops := [], joins := [] }
theorem spec_l01Src_l09Cols.cons (N : Nat) : ConsOk Try.prog (spec_l01Src_l09Cols.cfg N).con := (consOk_cons (hb24) (spec_l01Src_one.ok N) (spec_l01Src_one.det N) (consOk_cons (hb23) (spec_l01Src_n.ok N) (spec_l01Src_n.det N) consOk_nil))
theorem spec_l01Src_l09Cols.ls (N : Nat) : LoopsOk Try.prog (spec_l01Src_l09Cols.cfg N) (fnBody Try.f13) := loopsL (l := []) (by kernel_rfl) trivial
theorem spec_l01Src_l09Cols.b (N : Nat) (x0 : den s55) : body (spec_l01Src_l09Cols.cfg N) N Try.f13 [.one] [.io] [(false, .imm)] [⟨s55, .imm, x0⟩] (fun r i => some (r, i)) = bindO (spec_l01Src_l09Cols N x0) fun r => some ([⟨(.int .i64), .imm, r.1⟩], [⟨s55, .imm, r.2⟩]) := by
  show _ = bindF _ _
  conv => rhs; simp only [spec_l01Src_l09Cols, bindF_ifB, bindF_bindO, bindF_pure, bindF_none, bindF_onSum]
  kernel_rfl
theorem spec_l01Src_l09Cols.ok (N : Nat) : ConOk Try.prog 13 [.one] (spec_l01Src_l09Cols.con N) := ok1 (g := spec_l01Src_l09Cols.cfg N) (N := N) (res := [(false, .imm)]) tys_ok (spec_l01Src_l09Cols.cons N) mixed Try.func13 (spec_l01Src_l09Cols.ls N) rfl (spec_l01Src_l09Cols.b N)
theorem spec_l01Src_l09Cols.det (N : Nat) : ConDet (spec_l01Src_l09Cols.con N) := det1
def spec_DrawViewRows.con (N : Nat) : Con := { modes := [.v], ptrs := [false, false, false], fn := fn1 s22 .imm (spec_DrawViewRows N) (fun r => [⟨s23, (.own .imm), r.1⟩, ⟨s24, (.pr (.own .imm) .imm), r.2.1⟩, ⟨(.int .i64), .imm, r.2.2⟩]) (fun r => []) }
def spec_DrawViewRows.cfg (N : Nat) : Cfg := { ty := tys, keep := [9, 11, 13, 17], flt := [], elm := elm0, live := [], ord := [(4, [0, 1, 2, 3, 4, 5, 6])], con := [((10, [.one]), spec_l01Source.con N), ((11, [.one]), spec_l01Src_l09Prompt.con N), ((12, [.one]), spec_l01Src_l02Buf.con N), ((13, [.one]), spec_l01Src_l09Cols.con N)], loops := [], joins := [] }
theorem spec_DrawViewRows.cons (N : Nat) : ConsOk Try.prog (spec_DrawViewRows.cfg N).con := (consOk_cons (hb10) (spec_l01Source.ok N) (spec_l01Source.det N) (consOk_cons (hb11) (spec_l01Src_l09Prompt.ok N) (spec_l01Src_l09Prompt.det N) (consOk_cons (hb12) (spec_l01Src_l02Buf.ok N) (spec_l01Src_l02Buf.det N) (consOk_cons (hb13) (spec_l01Src_l09Cols.ok N) (spec_l01Src_l09Cols.det N) consOk_nil))))
theorem spec_DrawViewRows.ls (N : Nat) : LoopsOk Try.prog (spec_DrawViewRows.cfg N) (fnBody Try.f4) := loopsL (l := []) (by kernel_rfl) trivial
theorem spec_DrawViewRows.b (N : Nat) (x0 : den s22) : body (spec_DrawViewRows.cfg N) N Try.f4 [.one] [.v] [(false, (.own .imm)), (false, (.pr (.own .imm) .imm)), (false, .imm)] [⟨s22, .imm, x0⟩] (fun r i => some (r, i)) = bindO (spec_DrawViewRows N x0) fun r => some ([⟨s23, (.own .imm), r.1⟩, ⟨s24, (.pr (.own .imm) .imm), r.2.1⟩, ⟨(.int .i64), .imm, r.2.2⟩], []) := by
  show _ = bindF _ _
  conv => rhs; simp only [spec_DrawViewRows, bindF_ifB, bindF_bindO, bindF_pure, bindF_none, bindF_onSum]
  kernel_rfl
theorem spec_DrawViewRows.ok (N : Nat) : ConOk Try.prog 4 [.one] (spec_DrawViewRows.con N) := ok1 (g := spec_DrawViewRows.cfg N) (N := N) (res := [(false, (.own .imm)), (false, (.pr (.own .imm) .imm)), (false, .imm)]) tys_ok (spec_DrawViewRows.cons N) mixed Try.func4 (spec_DrawViewRows.ls N) rfl (spec_DrawViewRows.b N)
theorem spec_DrawViewRows.det (N : Nat) : ConDet (spec_DrawViewRows.con N) := det1
def laws_lwCopy.con (N : Nat) : Con := { modes := [.v], ptrs := [false], fn := fn1 s23 .imm (laws_lwCopy N) (fun r => [⟨s23, (.own .imm), r⟩]) (fun r => []) }
def laws_lwCopy.cfg (N : Nat) : Cfg := { ty := tys, keep := [], flt := [], elm := elm0, live := [], ord := [], con := [], loops := [], joins := [] }
theorem laws_lwCopy.cons (N : Nat) : ConsOk Try.prog (laws_lwCopy.cfg N).con := consOk_nil
theorem laws_lwCopy.ls (N : Nat) : LoopsOk Try.prog (laws_lwCopy.cfg N) (fnBody Try.f6) := loopsL (l := []) (by kernel_rfl) trivial
theorem laws_lwCopy.b (N : Nat) (x0 : den s23) : body (laws_lwCopy.cfg N) N Try.f6 [.one] [.v] [(false, (.own .imm))] [⟨s23, .imm, x0⟩] (fun r i => some (r, i)) = bindO (laws_lwCopy N x0) fun r => some ([⟨s23, (.own .imm), r⟩], []) := by
  show _ = bindF _ _
  conv => rhs; simp only [laws_lwCopy, bindF_ifB, bindF_bindO, bindF_pure, bindF_none, bindF_onSum]
  kernel_rfl
theorem laws_lwCopy.ok (N : Nat) : ConOk Try.prog 6 [.one] (laws_lwCopy.con N) := ok1 (g := laws_lwCopy.cfg N) (N := N) (res := [(false, (.own .imm))]) tys_ok (laws_lwCopy.cons N) mixed Try.func6 (laws_lwCopy.ls N) rfl (laws_lwCopy.b N)
theorem laws_lwCopy.det (N : Nat) : ConDet (laws_lwCopy.con N) := det1
def impl_within.con (N : Nat) : Con := { modes := [.v, .v, .v], ptrs := [false], fn := fn3 (.int .i64) .imm (.int .i64) .imm (.int .i64) .imm (impl_within N) (fun r => [⟨.bool, .imm, r⟩]) (fun r => []) }
def impl_within.cfg (N : Nat) : Cfg := { ty := tys, keep := [], flt := [], elm := elm0, live := [], ord := [], con := [], loops := [], joins := [] }
theorem impl_within.cons (N : Nat) : ConsOk Try.prog (impl_within.cfg N).con := consOk_nil
theorem impl_within.ls (N : Nat) : LoopsOk Try.prog (impl_within.cfg N) (fnBody Try.f30) := loopsL (l := []) (by kernel_rfl) trivial
theorem impl_within.b (N : Nat) (x0 : den (.int .i64)) (x1 : den (.int .i64)) (x2 : den (.int .i64)) : body (impl_within.cfg N) N Try.f30 [.one, .one, .one] [.v, .v, .v] [(false, .imm)] [⟨(.int .i64), .imm, x0⟩, ⟨(.int .i64), .imm, x1⟩, ⟨(.int .i64), .imm, x2⟩] (fun r i => some (r, i)) = bindO (impl_within N x0 x1 x2) fun r => some ([⟨.bool, .imm, r⟩], []) := by
  show _ = bindF _ _
  conv => rhs; simp only [impl_within, bindF_ifB, bindF_bindO, bindF_pure, bindF_none, bindF_onSum]
  kernel_rfl
theorem impl_within.ok (N : Nat) : ConOk Try.prog 30 [.one, .one, .one] (impl_within.con N) := ok3 (g := impl_within.cfg N) (N := N) (res := [(false, .imm)]) tys_ok (impl_within.cons N) mixed Try.func30 (impl_within.ls N) rfl (impl_within.b N)
theorem impl_within.det (N : Nat) : ConDet (impl_within.con N) := det3
def impl_isPoint.con (N : Nat) : Con := { modes := [.v], ptrs := [false], fn := fn1 (.int .i64) .imm (impl_isPoint N) (fun r => [⟨.bool, .imm, r⟩]) (fun r => []) }
def impl_isPoint.cfg (N : Nat) : Cfg := { ty := tys, keep := [4, 7], flt := [], elm := elm0, live := [], ord := [], con := [((30, [.one, .one, .one]), impl_within.con N)], loops := [], joins := [] }
theorem impl_isPoint.cons (N : Nat) : ConsOk Try.prog (impl_isPoint.cfg N).con := (consOk_cons (hb30) (impl_within.ok N) (impl_within.det N) consOk_nil)
theorem impl_isPoint.ls (N : Nat) : LoopsOk Try.prog (impl_isPoint.cfg N) (fnBody Try.f41) := loopsL (l := []) (by kernel_rfl) trivial
theorem impl_isPoint.b (N : Nat) (x0 : den (.int .i64)) : body (impl_isPoint.cfg N) N Try.f41 [.one] [.v] [(false, .imm)] [⟨(.int .i64), .imm, x0⟩] (fun r i => some (r, i)) = bindO (impl_isPoint N x0) fun r => some ([⟨.bool, .imm, r⟩], []) := by
  show _ = bindF _ _
  conv => rhs; simp only [impl_isPoint, bindF_ifB, bindF_bindO, bindF_pure, bindF_none, bindF_onSum]
  kernel_rfl
theorem impl_isPoint.ok (N : Nat) : ConOk Try.prog 41 [.one] (impl_isPoint.con N) := ok1 (g := impl_isPoint.cfg N) (N := N) (res := [(false, .imm)]) tys_ok (impl_isPoint.cons N) mixed Try.func41 (impl_isPoint.ls N) rfl (impl_isPoint.b N)
theorem impl_isPoint.det (N : Nat) : ConDet (impl_isPoint.con N) := det1
end Go.AE.F
end
