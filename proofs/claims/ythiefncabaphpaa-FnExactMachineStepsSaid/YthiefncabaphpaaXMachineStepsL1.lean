/- The printed functions are what the program comes to: contracts. -/
import Derived.Test.YthiefncabaphpaaXMachineStepsL0
noncomputable section
namespace Go.AE.F
open Go.AE Go.Proofs
set_option maxRecDepth 100000
def spec_PointsRight.sk4 : Skel := ⟨.pv s23 :: (dd 2 (.pv (.int .i64) :: (dd 15 []))), []⟩
def spec_PointsRight.xs4 : List XS := [⟨.exit 0, [], ⟨dd 19 [], []⟩⟩, ⟨.ret, [2], ⟨dd 2 (.pv .bool :: (dd 16 [])), []⟩⟩]
def spec_PointsRight.con (N : Nat) : Con := { modes := [.v], ptrs := [false], fn := fn1 s23 .imm (spec_PointsRight N) (fun r => [⟨.bool, .imm, r⟩]) (fun r => []) }
def spec_PointsRight.cfg (N : Nat) : Cfg := { ty := tys, keep := [17], flt := [], elm := elm0, live := [(4, [0, 3])], ord := [], con := [((38, [.one]), spec_l01Point.con N)], loops := [(4, loopCon N spec_PointsRight.sk4 spec_PointsRight.xs4 (fun {R} => spec_PointsRight.l4 (R := R) N))], joins := [] }
theorem spec_PointsRight.cons (N : Nat) : ConsOk Try.prog (spec_PointsRight.cfg N).con := (consOk_cons (hb38) (spec_l01Point.ok N) (spec_l01Point.det N) consOk_nil)
theorem spec_PointsRight.h4 {R : Type} (N : Nat) (d : spec_PointsRight.sk4.D) (kn : spec_PointsRight.sk4.D → Option R) (kx : XD spec_PointsRight.xs4 → Option R) : roundK (spec_PointsRight.cfg N) N (nthLoop (fnBody Try.f23) 0) spec_PointsRight.sk4 spec_PointsRight.xs4 d kn kx = spec_PointsRight.l4 N d kn kx := by kernel_rfl
theorem spec_PointsRight.i4 (N : Nat) : LoopsOk Try.prog (spec_PointsRight.cfg N) (nthLoop (fnBody Try.f23) 0) := loopsL (l := []) (by kernel_rfl) trivial
theorem spec_PointsRight.o4 (N : Nat) : LoopOk Try.prog (nthLoop (fnBody Try.f23) 0) (loopCon N spec_PointsRight.sk4 spec_PointsRight.xs4 (fun {R} => spec_PointsRight.l4 (R := R) N)) := loop_ok (g := spec_PointsRight.cfg N) tys_ok (spec_PointsRight.cons N) mixed (spec_PointsRight.i4 N) (fun d kn kx => spec_PointsRight.h4 N d kn kx)
theorem spec_PointsRight.ls (N : Nat) : LoopsOk Try.prog (spec_PointsRight.cfg N) (fnBody Try.f23) := loopsL (l := [nthLoop (fnBody Try.f23) 0]) (by kernel_rfl) ⟨loopOne (L0 := loopCon N spec_PointsRight.sk4 spec_PointsRight.xs4 (fun {R} => spec_PointsRight.l4 (R := R) N)) (id := 4) (by kernel_rfl) (by kernel_rfl) (spec_PointsRight.o4 N), trivial⟩
theorem spec_PointsRight.q4 {R R' : Type} {N n : Nat} {d} {k} {g : R → Option R'} : bindF (loopP (spec_PointsRight.l4 N) n d k) g = loopP (spec_PointsRight.l4 N) n d fun e => bindF (k e) g := bindF_loopP (fun d kn kx => by simp only [spec_PointsRight.l4, bindF_ifB, bindF_bindO, bindF_pure, bindF_none, bindF_onSum]) n d k
theorem spec_PointsRight.b (N : Nat) (x0 : den s23) : body (spec_PointsRight.cfg N) N Try.f23 [.one] [.v] [(false, .imm)] [⟨s23, .imm, x0⟩] (fun r i => some (r, i)) = bindO (spec_PointsRight N x0) fun r => some ([⟨.bool, .imm, r⟩], []) := by
  show _ = bindF _ _
  conv => rhs; simp only [spec_PointsRight, bindF_ifB, bindF_bindO, bindF_pure, bindF_none, bindF_onSum, spec_PointsRight.q4]
  kernel_rfl
theorem spec_PointsRight.ok (N : Nat) : ConOk Try.prog 23 [.one] (spec_PointsRight.con N) := ok1 (g := spec_PointsRight.cfg N) (N := N) (res := [(false, .imm)]) tys_ok (spec_PointsRight.cons N) mixed Try.func23 (spec_PointsRight.ls N) rfl (spec_PointsRight.b N)
theorem spec_PointsRight.det (N : Nat) : ConDet (spec_PointsRight.con N) := det1
def spec_BufRight.con (N : Nat) : Con := { modes := [.v], ptrs := [false], fn := fn1 s24 .imm (spec_BufRight N) (fun r => [⟨.bool, .imm, r⟩]) (fun r => []) }
def spec_BufRight.cfg (N : Nat) : Cfg := { ty := tys, keep := [9], flt := [], elm := elm0, live := [], ord := [], con := [((23, [.one]), spec_PointsRight.con N)], loops := [], joins := [] }
theorem spec_BufRight.cons (N : Nat) : ConsOk Try.prog (spec_BufRight.cfg N).con := (consOk_cons (hb23) (spec_PointsRight.ok N) (spec_PointsRight.det N) consOk_nil)
theorem spec_BufRight.ls (N : Nat) : LoopsOk Try.prog (spec_BufRight.cfg N) (fnBody Try.f14) := loopsL (l := []) (by kernel_rfl) trivial
theorem spec_BufRight.b (N : Nat) (x0 : den s24) : body (spec_BufRight.cfg N) N Try.f14 [.one] [.v] [(false, .imm)] [⟨s24, .imm, x0⟩] (fun r i => some (r, i)) = bindO (spec_BufRight N x0) fun r => some ([⟨.bool, .imm, r⟩], []) := by
  show _ = bindF _ _
  conv => rhs; simp only [spec_BufRight, bindF_ifB, bindF_bindO, bindF_pure, bindF_none, bindF_onSum]
  kernel_rfl
theorem spec_BufRight.ok (N : Nat) : ConOk Try.prog 14 [.one] (spec_BufRight.con N) := ok1 (g := spec_BufRight.cfg N) (N := N) (res := [(false, .imm)]) tys_ok (spec_BufRight.cons N) mixed Try.func14 (spec_BufRight.ls N) rfl (spec_BufRight.b N)
theorem spec_BufRight.det (N : Nat) : ConDet (spec_BufRight.con N) := det1
def spec_l01Copy.con (N : Nat) : Con := { modes := [.v], ptrs := [false], fn := fn1 s23 .imm (spec_l01Copy N) (fun r => [⟨s23, (.own .imm), r⟩]) (fun r => []) }
def spec_l01Copy.cfg (N : Nat) : Cfg := { ty := tys, keep := [], flt := [], elm := elm0, live := [], ord := [], con := [], loops := [], joins := [] }
theorem spec_l01Copy.cons (N : Nat) : ConsOk Try.prog (spec_l01Copy.cfg N).con := consOk_nil
theorem spec_l01Copy.ls (N : Nat) : LoopsOk Try.prog (spec_l01Copy.cfg N) (fnBody Try.f27) := loopsL (l := []) (by kernel_rfl) trivial
theorem spec_l01Copy.b (N : Nat) (x0 : den s23) : body (spec_l01Copy.cfg N) N Try.f27 [.one] [.v] [(false, (.own .imm))] [⟨s23, .imm, x0⟩] (fun r i => some (r, i)) = bindO (spec_l01Copy N x0) fun r => some ([⟨s23, (.own .imm), r⟩], []) := by
  show _ = bindF _ _
  conv => rhs; simp only [spec_l01Copy, bindF_ifB, bindF_bindO, bindF_pure, bindF_none, bindF_onSum]
  kernel_rfl
theorem spec_l01Copy.ok (N : Nat) : ConOk Try.prog 27 [.one] (spec_l01Copy.con N) := ok1 (g := spec_l01Copy.cfg N) (N := N) (res := [(false, (.own .imm))]) tys_ok (spec_l01Copy.cons N) mixed Try.func27 (spec_l01Copy.ls N) rfl (spec_l01Copy.b N)
theorem spec_l01Copy.det (N : Nat) : ConDet (spec_l01Copy.con N) := det1
def spec_l02Copy.con (N : Nat) : Con := { modes := [.v], ptrs := [false], fn := fn1 s24 .imm (spec_l02Copy N) (fun r => [⟨s24, (.pr (.own .imm) .imm), r⟩]) (fun r => []) }
def spec_l02Copy.cfg (N : Nat) : Cfg := { ty := tys, keep := [5], flt := [], elm := elm0, live := [], ord := [], con := [((27, [.one]), spec_l01Copy.con N)], loops := [], joins := [] }
theorem spec_l02Copy.cons (N : Nat) : ConsOk Try.prog (spec_l02Copy.cfg N).con := (consOk_cons (hb27) (spec_l01Copy.ok N) (spec_l01Copy.det N) consOk_nil)
theorem spec_l02Copy.ls (N : Nat) : LoopsOk Try.prog (spec_l02Copy.cfg N) (fnBody Try.f24) := loopsL (l := []) (by kernel_rfl) trivial
theorem spec_l02Copy.b (N : Nat) (x0 : den s24) : body (spec_l02Copy.cfg N) N Try.f24 [.one] [.v] [(false, (.pr (.own .imm) .imm))] [⟨s24, .imm, x0⟩] (fun r i => some (r, i)) = bindO (spec_l02Copy N x0) fun r => some ([⟨s24, (.pr (.own .imm) .imm), r⟩], []) := by
  show _ = bindF _ _
  conv => rhs; simp only [spec_l02Copy, bindF_ifB, bindF_bindO, bindF_pure, bindF_none, bindF_onSum]
  kernel_rfl
theorem spec_l02Copy.ok (N : Nat) : ConOk Try.prog 24 [.one] (spec_l02Copy.con N) := ok1 (g := spec_l02Copy.cfg N) (N := N) (res := [(false, (.pr (.own .imm) .imm))]) tys_ok (spec_l02Copy.cons N) mixed Try.func24 (spec_l02Copy.ls N) rfl (spec_l02Copy.b N)
theorem spec_l02Copy.det (N : Nat) : ConDet (spec_l02Copy.con N) := det1
def spec_l12Run_fail.con (N : Nat) : Con := { modes := [.io, .v], ptrs := [], fn := fn2 s58 (.pr .imm (.pr .imm (.pr (.own .imm) .imm))) (.int .i64) .imm (spec_l12Run_fail N) (fun r => []) (fun r => [⟨s58, (.pr .imm (.pr .imm (.pr (.own .imm) .imm))), r⟩]) }
def spec_l12Run_fail.cfg (N : Nat) : Cfg := { ty := tys, keep := [], flt := [], elm := elm0, live := [], ord := [], con := [], loops := [], joins := [] }
theorem spec_l12Run_fail.cons (N : Nat) : ConsOk Try.prog (spec_l12Run_fail.cfg N).con := consOk_nil
theorem spec_l12Run_fail.ls (N : Nat) : LoopsOk Try.prog (spec_l12Run_fail.cfg N) (fnBody Try.f25) := loopsL (l := []) (by kernel_rfl) trivial
theorem spec_l12Run_fail.b (N : Nat) (x0 : den s58) (x1 : den (.int .i64)) : body (spec_l12Run_fail.cfg N) N Try.f25 [.one, .one] [.io, .v] [] [⟨s58, (.pr .imm (.pr .imm (.pr (.own .imm) .imm))), x0⟩, ⟨(.int .i64), .imm, x1⟩] (fun r i => some (r, i)) = bindO (spec_l12Run_fail N x0 x1) fun r => some ([], [⟨s58, (.pr .imm (.pr .imm (.pr (.own .imm) .imm))), r⟩]) := by
  show _ = bindF _ _
  conv => rhs; simp only [spec_l12Run_fail, bindF_ifB, bindF_bindO, bindF_pure, bindF_none, bindF_onSum]
  kernel_rfl
theorem spec_l12Run_fail.ok (N : Nat) : ConOk Try.prog 25 [.one, .one] (spec_l12Run_fail.con N) := ok2 (g := spec_l12Run_fail.cfg N) (N := N) (res := []) tys_ok (spec_l12Run_fail.cons N) mixed Try.func25 (spec_l12Run_fail.ls N) rfl (spec_l12Run_fail.b N)
theorem spec_l12Run_fail.det (N : Nat) : ConDet (spec_l12Run_fail.con N) := det2
def spec_l12Run_slot.sk2 : Skel := ⟨.rp s58 :: (.pv .str :: (dd 3 (.pv (.int .i64) :: (dd 19 [])))), []⟩
def spec_l12Run_slot.xs2 : List XS := [⟨.exit 0, [], ⟨dd 25 [], []⟩⟩, ⟨.ret, [4], ⟨dd 4 (.pv (.int .i64) :: (dd 20 [])), []⟩⟩]
def spec_l12Run_slot.con (N : Nat) : Con := { modes := [.rd, .v], ptrs := [false], fn := fn2 s58 .imm .str .imm (spec_l12Run_slot N) (fun r => [⟨(.int .i64), .imm, r⟩]) (fun r => []) }
def spec_l12Run_slot.cfg (N : Nat) : Cfg := { ty := tys, keep := [], flt := [], elm := elm0, live := [(2, [0, 1, 5])], ord := [], con := [], loops := [(2, loopCon N spec_l12Run_slot.sk2 spec_l12Run_slot.xs2 (fun {R} => spec_l12Run_slot.l2 (R := R) N))], joins := [] }
theorem spec_l12Run_slot.cons (N : Nat) : ConsOk Try.prog (spec_l12Run_slot.cfg N).con := consOk_nil
theorem spec_l12Run_slot.h2 {R : Type} (N : Nat) (d : spec_l12Run_slot.sk2.D) (kn : spec_l12Run_slot.sk2.D → Option R) (kx : XD spec_l12Run_slot.xs2 → Option R) : roundK (spec_l12Run_slot.cfg N) N (nthLoop (fnBody Try.f39) 0) spec_l12Run_slot.sk2 spec_l12Run_slot.xs2 d kn kx = spec_l12Run_slot.l2 N d kn kx := by kernel_rfl
theorem spec_l12Run_slot.i2 (N : Nat) : LoopsOk Try.prog (spec_l12Run_slot.cfg N) (nthLoop (fnBody Try.f39) 0) := loopsL (l := []) (by kernel_rfl) trivial
theorem spec_l12Run_slot.o2 (N : Nat) : LoopOk Try.prog (nthLoop (fnBody Try.f39) 0) (loopCon N spec_l12Run_slot.sk2 spec_l12Run_slot.xs2 (fun {R} => spec_l12Run_slot.l2 (R := R) N)) := loop_ok (g := spec_l12Run_slot.cfg N) tys_ok (spec_l12Run_slot.cons N) mixed (spec_l12Run_slot.i2 N) (fun d kn kx => spec_l12Run_slot.h2 N d kn kx)
theorem spec_l12Run_slot.ls (N : Nat) : LoopsOk Try.prog (spec_l12Run_slot.cfg N) (fnBody Try.f39) := loopsL (l := [nthLoop (fnBody Try.f39) 0]) (by kernel_rfl) ⟨loopOne (L0 := loopCon N spec_l12Run_slot.sk2 spec_l12Run_slot.xs2 (fun {R} => spec_l12Run_slot.l2 (R := R) N)) (id := 2) (by kernel_rfl) (by kernel_rfl) (spec_l12Run_slot.o2 N), trivial⟩
theorem spec_l12Run_slot.q2 {R R' : Type} {N n : Nat} {d} {k} {g : R → Option R'} : bindF (loopP (spec_l12Run_slot.l2 N) n d k) g = loopP (spec_l12Run_slot.l2 N) n d fun e => bindF (k e) g := bindF_loopP (fun d kn kx => by simp only [spec_l12Run_slot.l2, bindF_ifB, bindF_bindO, bindF_pure, bindF_none, bindF_onSum]) n d k
theorem spec_l12Run_slot.b (N : Nat) (x0 : den s58) (x1 : den .str) : body (spec_l12Run_slot.cfg N) N Try.f39 [.one, .one] [.rd, .v] [(false, .imm)] [⟨s58, .imm, x0⟩, ⟨.str, .imm, x1⟩] (fun r i => some (r, i)) = bindO (spec_l12Run_slot N x0 x1) fun r => some ([⟨(.int .i64), .imm, r⟩], []) := by
  show _ = bindF _ _
  conv => rhs; simp only [spec_l12Run_slot, bindF_ifB, bindF_bindO, bindF_pure, bindF_none, bindF_onSum, spec_l12Run_slot.q2]
  kernel_rfl
theorem spec_l12Run_slot.ok (N : Nat) : ConOk Try.prog 39 [.one, .one] (spec_l12Run_slot.con N) := ok2 (g := spec_l12Run_slot.cfg N) (N := N) (res := [(false, .imm)]) tys_ok (spec_l12Run_slot.cons N) mixed Try.func39 (spec_l12Run_slot.ls N) rfl (spec_l12Run_slot.b N)
theorem spec_l12Run_slot.det (N : Nat) : ConDet (spec_l12Run_slot.con N) := det2
def spec_l02Moved.con (N : Nat) : Con := { modes := [.v, .v, .v, .v], ptrs := [false], fn := fn4 (.int .i64) .imm (.int .i64) .imm (.int .i64) .imm (.int .i64) .imm (spec_l02Moved N) (fun r => [⟨(.int .i64), .imm, r⟩]) (fun r => []) }
def spec_l02Moved.cfg (N : Nat) : Cfg := { ty := tys, keep := [], flt := [], elm := elm0, live := [], ord := [], con := [], loops := [], joins := [] }
theorem spec_l02Moved.cons (N : Nat) : ConsOk Try.prog (spec_l02Moved.cfg N).con := consOk_nil
theorem spec_l02Moved.ls (N : Nat) : LoopsOk Try.prog (spec_l02Moved.cfg N) (fnBody Try.f77) := loopsL (l := []) (by kernel_rfl) trivial
theorem spec_l02Moved.b (N : Nat) (x0 : den (.int .i64)) (x1 : den (.int .i64)) (x2 : den (.int .i64)) (x3 : den (.int .i64)) : body (spec_l02Moved.cfg N) N Try.f77 [.one, .one, .one, .one] [.v, .v, .v, .v] [(false, .imm)] [⟨(.int .i64), .imm, x0⟩, ⟨(.int .i64), .imm, x1⟩, ⟨(.int .i64), .imm, x2⟩, ⟨(.int .i64), .imm, x3⟩] (fun r i => some (r, i)) = bindO (spec_l02Moved N x0 x1 x2 x3) fun r => some ([⟨(.int .i64), .imm, r⟩], []) := by
  show _ = bindF _ _
  conv => rhs; simp only [spec_l02Moved, bindF_ifB, bindF_bindO, bindF_pure, bindF_none, bindF_onSum]
  kernel_rfl
theorem spec_l02Moved.ok (N : Nat) : ConOk Try.prog 77 [.one, .one, .one, .one] (spec_l02Moved.con N) := ok4 (g := spec_l02Moved.cfg N) (N := N) (res := [(false, .imm)]) tys_ok (spec_l02Moved.cons N) mixed Try.func77 (spec_l02Moved.ls N) rfl (spec_l02Moved.b N)
theorem spec_l02Moved.det (N : Nat) : ConDet (spec_l02Moved.con N) := det4
def spec_BufReplace.con (N : Nat) : Con := { modes := [.v, .v, .v, .v], ptrs := [false], fn := fn4 s24 .imm (.int .i64) .imm (.int .i64) .imm s23 .imm (spec_BufReplace N) (fun r => [⟨s82, (.pr (.pr (.own .imm) .imm) (.pr (.own .imm) .imm)), r⟩]) (fun r => []) }
def spec_BufReplace.cfg (N : Nat) : Cfg := { ty := tys, keep := [18, 22, 63, 69, 75, 103], flt := [], elm := elm0, live := [], ord := [(12, [13, 0, 1, 2, 3, 4, 6, 7, 8, 9, 10, 5, 11, 12, 14]), (13, [0, 1, 2, 3, 5, 7, 8, 9, 10, 4, 6, 11, 12, 13]), (16, [0, 1, 2, 3, 4, 5, 6, 7, 8])], con := [((14, [.one]), spec_BufRight.con N), ((23, [.one]), spec_PointsRight.con N), ((77, [.one, .one, .one, .one]), spec_l02Moved.con N), ((27, [.one]), spec_l01Copy.con N)], loops := [], joins := [] }
theorem spec_BufReplace.cons (N : Nat) : ConsOk Try.prog (spec_BufReplace.cfg N).con := (consOk_cons (hb14) (spec_BufRight.ok N) (spec_BufRight.det N) (consOk_cons (hb23) (spec_PointsRight.ok N) (spec_PointsRight.det N) (consOk_cons (hb77) (spec_l02Moved.ok N) (spec_l02Moved.det N) (consOk_cons (hb27) (spec_l01Copy.ok N) (spec_l01Copy.det N) consOk_nil))))
theorem spec_BufReplace.ls (N : Nat) : LoopsOk Try.prog (spec_BufReplace.cfg N) (fnBody Try.f63) := loopsL (l := []) (by kernel_rfl) trivial
theorem spec_BufReplace.b (N : Nat) (x0 : den s24) (x1 : den (.int .i64)) (x2 : den (.int .i64)) (x3 : den s23) : body (spec_BufReplace.cfg N) N Try.f63 [.one, .one, .one, .one] [.v, .v, .v, .v] [(false, (.pr (.pr (.own .imm) .imm) (.pr (.own .imm) .imm)))] [⟨s24, .imm, x0⟩, ⟨(.int .i64), .imm, x1⟩, ⟨(.int .i64), .imm, x2⟩, ⟨s23, .imm, x3⟩] (fun r i => some (r, i)) = bindO (spec_BufReplace N x0 x1 x2 x3) fun r => some ([⟨s82, (.pr (.pr (.own .imm) .imm) (.pr (.own .imm) .imm)), r⟩], []) := by
  show _ = bindF _ _
  conv => rhs; simp only [spec_BufReplace, bindF_ifB, bindF_bindO, bindF_pure, bindF_none, bindF_onSum]
  kernel_rfl
theorem spec_BufReplace.ok (N : Nat) : ConOk Try.prog 63 [.one, .one, .one, .one] (spec_BufReplace.con N) := ok4 (g := spec_BufReplace.cfg N) (N := N) (res := [(false, (.pr (.pr (.own .imm) .imm) (.pr (.own .imm) .imm)))]) tys_ok (spec_BufReplace.cons N) mixed Try.func63 (spec_BufReplace.ls N) rfl (spec_BufReplace.b N)
theorem spec_BufReplace.det (N : Nat) : ConDet (spec_BufReplace.con N) := det4
def spec_BufInsert.con (N : Nat) : Con := { modes := [.v, .v], ptrs := [false], fn := fn2 s24 .imm s23 .imm (spec_BufInsert N) (fun r => [⟨s82, (.pr (.pr (.own .imm) .imm) (.pr (.own .imm) .imm)), r⟩]) (fun r => []) }
def spec_BufInsert.cfg (N : Nat) : Cfg := { ty := tys, keep := [11], flt := [], elm := elm0, live := [], ord := [], con := [((63, [.one, .one, .one, .one]), spec_BufReplace.con N)], loops := [], joins := [] }
theorem spec_BufInsert.cons (N : Nat) : ConsOk Try.prog (spec_BufInsert.cfg N).con := (consOk_cons (hb63) (spec_BufReplace.ok N) (spec_BufReplace.det N) consOk_nil)
theorem spec_BufInsert.ls (N : Nat) : LoopsOk Try.prog (spec_BufInsert.cfg N) (fnBody Try.f42) := loopsL (l := []) (by kernel_rfl) trivial
theorem spec_BufInsert.b (N : Nat) (x0 : den s24) (x1 : den s23) : body (spec_BufInsert.cfg N) N Try.f42 [.one, .one] [.v, .v] [(false, (.pr (.pr (.own .imm) .imm) (.pr (.own .imm) .imm)))] [⟨s24, .imm, x0⟩, ⟨s23, .imm, x1⟩] (fun r i => some (r, i)) = bindO (spec_BufInsert N x0 x1) fun r => some ([⟨s82, (.pr (.pr (.own .imm) .imm) (.pr (.own .imm) .imm)), r⟩], []) := by
  show _ = bindF _ _
  conv => rhs; simp only [spec_BufInsert, bindF_ifB, bindF_bindO, bindF_pure, bindF_none, bindF_onSum]
  kernel_rfl
theorem spec_BufInsert.ok (N : Nat) : ConOk Try.prog 42 [.one, .one] (spec_BufInsert.con N) := ok2 (g := spec_BufInsert.cfg N) (N := N) (res := [(false, (.pr (.pr (.own .imm) .imm) (.pr (.own .imm) .imm)))]) tys_ok (spec_BufInsert.cons N) mixed Try.func42 (spec_BufInsert.ls N) rfl (spec_BufInsert.b N)
theorem spec_BufInsert.det (N : Nat) : ConDet (spec_BufInsert.con N) := det2
def spec_BufDelete.con (N : Nat) : Con := { modes := [.v, .v, .v], ptrs := [false], fn := fn3 s24 .imm (.int .i64) .imm (.int .i64) .imm (spec_BufDelete N) (fun r => [⟨s82, (.pr (.pr (.own .imm) .imm) (.pr (.own .imm) .imm)), r⟩]) (fun r => []) }
def spec_BufDelete.cfg (N : Nat) : Cfg := { ty := tys, keep := [11], flt := [], elm := elm0, live := [], ord := [], con := [((63, [.one, .one, .one, .one]), spec_BufReplace.con N)], loops := [], joins := [] }
theorem spec_BufDelete.cons (N : Nat) : ConsOk Try.prog (spec_BufDelete.cfg N).con := (consOk_cons (hb63) (spec_BufReplace.ok N) (spec_BufReplace.det N) consOk_nil)
theorem spec_BufDelete.ls (N : Nat) : LoopsOk Try.prog (spec_BufDelete.cfg N) (fnBody Try.f43) := loopsL (l := []) (by kernel_rfl) trivial
theorem spec_BufDelete.b (N : Nat) (x0 : den s24) (x1 : den (.int .i64)) (x2 : den (.int .i64)) : body (spec_BufDelete.cfg N) N Try.f43 [.one, .one, .one] [.v, .v, .v] [(false, (.pr (.pr (.own .imm) .imm) (.pr (.own .imm) .imm)))] [⟨s24, .imm, x0⟩, ⟨(.int .i64), .imm, x1⟩, ⟨(.int .i64), .imm, x2⟩] (fun r i => some (r, i)) = bindO (spec_BufDelete N x0 x1 x2) fun r => some ([⟨s82, (.pr (.pr (.own .imm) .imm) (.pr (.own .imm) .imm)), r⟩], []) := by
  show _ = bindF _ _
  conv => rhs; simp only [spec_BufDelete, bindF_ifB, bindF_bindO, bindF_pure, bindF_none, bindF_onSum]
  kernel_rfl
theorem spec_BufDelete.ok (N : Nat) : ConOk Try.prog 43 [.one, .one, .one] (spec_BufDelete.con N) := ok3 (g := spec_BufDelete.cfg N) (N := N) (res := [(false, (.pr (.pr (.own .imm) .imm) (.pr (.own .imm) .imm)))]) tys_ok (spec_BufDelete.cons N) mixed Try.func43 (spec_BufDelete.ls N) rfl (spec_BufDelete.b N)
theorem spec_BufDelete.det (N : Nat) : ConDet (spec_BufDelete.con N) := det3
def spec_l12Run_act.con (N : Nat) : Con := { modes := [.io, .v, .v, .v], ptrs := [], fn := fn4 s58 (.pr .imm (.pr .imm (.pr (.own .imm) .imm))) (.int .i64) .imm (.int .i64) .imm (.int .i64) .imm (spec_l12Run_act N) (fun r => []) (fun r => [⟨s58, (.pr .imm (.pr .imm (.pr (.own .imm) .imm))), r⟩]) }
def spec_l12Run_act.cfg (N : Nat) : Cfg := { ty := tys, keep := [], flt := [], elm := elm0, live := [], ord := [], con := [((38, [.one]), spec_l01Point.con N), ((25, [.one, .one]), spec_l12Run_fail.con N), ((42, [.one, .one]), spec_BufInsert.con N), ((43, [.one, .one, .one]), spec_BufDelete.con N)], loops := [], joins := [] }
theorem spec_l12Run_act.cons (N : Nat) : ConsOk Try.prog (spec_l12Run_act.cfg N).con := (consOk_cons (hb38) (spec_l01Point.ok N) (spec_l01Point.det N) (consOk_cons (hb25) (spec_l12Run_fail.ok N) (spec_l12Run_fail.det N) (consOk_cons (hb42) (spec_BufInsert.ok N) (spec_BufInsert.det N) (consOk_cons (hb43) (spec_BufDelete.ok N) (spec_BufDelete.det N) consOk_nil))))
theorem spec_l12Run_act.ls (N : Nat) : LoopsOk Try.prog (spec_l12Run_act.cfg N) (fnBody Try.f29) := loopsL (l := []) (by kernel_rfl) trivial
theorem spec_l12Run_act.b (N : Nat) (x0 : den s58) (x1 : den (.int .i64)) (x2 : den (.int .i64)) (x3 : den (.int .i64)) : body (spec_l12Run_act.cfg N) N Try.f29 [.one, .one, .one, .one] [.io, .v, .v, .v] [] [⟨s58, (.pr .imm (.pr .imm (.pr (.own .imm) .imm))), x0⟩, ⟨(.int .i64), .imm, x1⟩, ⟨(.int .i64), .imm, x2⟩, ⟨(.int .i64), .imm, x3⟩] (fun r i => some (r, i)) = bindO (spec_l12Run_act N x0 x1 x2 x3) fun r => some ([], [⟨s58, (.pr .imm (.pr .imm (.pr (.own .imm) .imm))), r⟩]) := by
  show _ = bindF _ _
  conv => rhs; simp only [spec_l12Run_act, bindF_ifB, bindF_bindO, bindF_pure, bindF_none, bindF_onSum]
  kernel_rfl
theorem spec_l12Run_act.ok (N : Nat) : ConOk Try.prog 29 [.one, .one, .one, .one] (spec_l12Run_act.con N) := ok4 (g := spec_l12Run_act.cfg N) (N := N) (res := []) tys_ok (spec_l12Run_act.cons N) mixed Try.func29 (spec_l12Run_act.ls N) rfl (spec_l12Run_act.b N)
theorem spec_l12Run_act.det (N : Nat) : ConDet (spec_l12Run_act.con N) := det4
def spec_l11Motions.con (N : Nat) : Con := { modes := [], ptrs := [false], fn := fun ds k => match ds with | [] => bindO (spec_l11Motions N) fun r => k [⟨(.sl 9 .str), (.own .imm), r⟩] [] | _ => none }
def spec_l11Motions.cfg (N : Nat) : Cfg := { ty := tys, keep := [], flt := [], elm := elm0, live := [], ord := [], con := [], loops := [], joins := [] }
theorem spec_l11Motions.cons (N : Nat) : ConsOk Try.prog (spec_l11Motions.cfg N).con := consOk_nil
theorem spec_l11Motions.ls (N : Nat) : LoopsOk Try.prog (spec_l11Motions.cfg N) (fnBody Try.f62) := loopsL (l := []) (by kernel_rfl) trivial
theorem spec_l11Motions.b (N : Nat)  : body (spec_l11Motions.cfg N) N Try.f62 [] [] [(false, (.own .imm))] [] (fun r i => some (r, i)) = bindO (spec_l11Motions N) fun r => some ([⟨(.sl 9 .str), (.own .imm), r⟩], []) := by
  show _ = bindF _ _
  conv => rhs; simp only [spec_l11Motions, bindF_ifB, bindF_bindO, bindF_pure, bindF_none, bindF_onSum]
  kernel_rfl
theorem spec_l11Motions.ok (N : Nat) : ConOk Try.prog 62 [] (spec_l11Motions.con N) := by
  refine conOk_mk (g := spec_l11Motions.cfg N) (N := N) (res := [(false, (.own .imm))]) tys_ok (spec_l11Motions.cons N) mixed Try.func62 (spec_l11Motions.ls N) rfl rfl ?_
  intro ds R k y h
  cases ds with
  | cons _ _ => exact none_some h
  | nil =>
  have h0 : (bindO (spec_l11Motions N) fun r => k [⟨(.sl 9 .str), (.own .imm), r⟩] []) = some y := h
  clear h
  exact con_fin (spec_l11Motions.b N) h0
theorem spec_l11Motions.det (N : Nat) : ConDet (spec_l11Motions.con N) := by
  intro ds R k y h
  cases ds with
  | cons _ _ => exact none_some h
  | nil =>
  have h0 : (bindO (spec_l11Motions N) fun r => k [⟨(.sl 9 .str), (.own .imm), r⟩] []) = some y := h
  clear h
  obtain ⟨r, e, h⟩ := bindO_some h0
  refine ⟨_, _, h, fun k' => ?_⟩
  show (bindO (spec_l11Motions N) fun r => k' [⟨(.sl 9 .str), (.own .imm), r⟩] []) = _
  skip
  rw [e]
  rfl
end Go.AE.F
end
