/- The printed functions are what the program comes to: contracts. -/
import Derived.Test.YteoociojgeokmaaDoorXSendL0
noncomputable section
namespace Go.AE.F
open Go.AE Go.Proofs
set_option maxRecDepth 100000
def spec_l08Wide.con (N : Nat) : Con := { modes := [.v], ptrs := [false], fn := fn1 s37 .imm (spec_l08Wide N) (fun r => [⟨.bool, .imm, r⟩]) (fun r => []) }
def spec_l08Wide.cfg (N : Nat) : Cfg := { ty := tys, keep := [12], flt := [], elm := elm0, live := [], ord := [], con := [((55, [.one]), spec_WidthOf.con N)], loops := [], joins := [] }
theorem spec_l08Wide.cons (N : Nat) : ConsOk Tryd.prog (spec_l08Wide.cfg N).con := (consOk_cons (hb55) (spec_WidthOf.ok N) (spec_WidthOf.det N) consOk_nil)
theorem spec_l08Wide.ls (N : Nat) : LoopsOk Tryd.prog (spec_l08Wide.cfg N) (fnBody Tryd.f42) := loopsL (l := []) (by kernel_rfl) trivial
theorem spec_l08Wide.b (N : Nat) (x0 : den s37) : body (spec_l08Wide.cfg N) N Tryd.f42 [.one] [.v] [(false, .imm)] [⟨s37, .imm, x0⟩] (fun r i => some (r, i)) = bindO (spec_l08Wide N x0) fun r => some ([⟨.bool, .imm, r⟩], []) := by
  show _ = bindF _ _
  conv => rhs; simp only [spec_l08Wide, bindF_ifB, bindF_bindO, bindF_pure, bindF_none, bindF_onSum]
  kernel_rfl
theorem spec_l08Wide.ok (N : Nat) : ConOk Tryd.prog 42 [.one] (spec_l08Wide.con N) := ok1 (g := spec_l08Wide.cfg N) (N := N) (res := [(false, .imm)]) tys_ok (spec_l08Wide.cons N) mixed Tryd.func42 (spec_l08Wide.ls N) rfl (spec_l08Wide.b N)
theorem spec_l08Wide.det (N : Nat) : ConDet (spec_l08Wide.con N) := det1
def spec_GridRight.sk4 : Skel := ⟨dd 1 (.ptr 50 [] :: (dd 1 (.pv (.int .i64) :: (dd 114 [])))), [⟨50, s28, .imm, true, false⟩]⟩
def spec_GridRight.xs4 : List XS := [⟨.exit 0, [], ⟨dd 118 [], []⟩⟩, ⟨.ret, [2], ⟨dd 2 (.pv .bool :: (dd 115 [])), []⟩⟩]
def spec_GridRight.con (N : Nat) : Con := { modes := [.v], ptrs := [false], fn := fn1 s28 .imm (spec_GridRight N) (fun r => [⟨.bool, .imm, r⟩]) (fun r => []) }
def spec_GridRight.cfg (N : Nat) : Cfg := { ty := tys, keep := [9, 81, 84], flt := [], elm := elm0, live := [(4, [1, 3])], ord := [(9, [0, 1, 2, 3, 4, 5, 6, 7, 8, 9, 10, 11, 12, 13, 14, 15, 16, 17, 18, 19, 20, 21, 22, 23, 24, 25, 26, 27, 28, 29, 30, 31, 32, 33, 34])], con := [((40, [.one, .one]), spec_l08Size.con N), ((41, [.one]), spec_l08Cell.con N), ((42, [.one]), spec_l08Wide.con N)], loops := [(4, loopCon N spec_GridRight.sk4 spec_GridRight.xs4 (fun {R} => spec_GridRight.l4 (R := R) N))], joins := [(5, [⟨.normal, [1, 3], ⟨dd 1 (.ptr 50 [] :: (dd 1 (.pv (.int .i64) :: (dd 114 [])))), [⟨50, s28, .imm, true, false⟩]⟩⟩, ⟨.ret, [2], ⟨dd 2 (.pv .bool :: (dd 115 [])), []⟩⟩])] }
theorem spec_GridRight.cons (N : Nat) : ConsOk Tryd.prog (spec_GridRight.cfg N).con := (consOk_cons (hb40) (spec_l08Size.ok N) (spec_l08Size.det N) (consOk_cons (hb41) (spec_l08Cell.ok N) (spec_l08Cell.det N) (consOk_cons (hb42) (spec_l08Wide.ok N) (spec_l08Wide.det N) consOk_nil)))
theorem spec_GridRight.h4 {R : Type} (N : Nat) (d : spec_GridRight.sk4.D) (kn : spec_GridRight.sk4.D → Option R) (kx : XD spec_GridRight.xs4 → Option R) : roundK (spec_GridRight.cfg N) N (nthLoop (fnBody Tryd.f24) 0) spec_GridRight.sk4 spec_GridRight.xs4 d kn kx = spec_GridRight.l4 N d kn kx := by kernel_rfl
theorem spec_GridRight.i4 (N : Nat) : LoopsOk Tryd.prog (spec_GridRight.cfg N) (nthLoop (fnBody Tryd.f24) 0) := loopsL (l := []) (by kernel_rfl) trivial
theorem spec_GridRight.o4 (N : Nat) : LoopOk Tryd.prog (nthLoop (fnBody Tryd.f24) 0) (loopCon N spec_GridRight.sk4 spec_GridRight.xs4 (fun {R} => spec_GridRight.l4 (R := R) N)) := loop_ok (g := spec_GridRight.cfg N) tys_ok (spec_GridRight.cons N) mixed (spec_GridRight.i4 N) (fun d kn kx => spec_GridRight.h4 N d kn kx)
theorem spec_GridRight.ls (N : Nat) : LoopsOk Tryd.prog (spec_GridRight.cfg N) (fnBody Tryd.f24) := loopsL (l := [nthLoop (fnBody Tryd.f24) 0]) (by kernel_rfl) ⟨loopOne (L0 := loopCon N spec_GridRight.sk4 spec_GridRight.xs4 (fun {R} => spec_GridRight.l4 (R := R) N)) (id := 4) (by kernel_rfl) (by kernel_rfl) (spec_GridRight.o4 N), trivial⟩
theorem spec_GridRight.q4 {R R' : Type} {N n : Nat} {d} {k} {g : R → Option R'} : bindF (loopP (spec_GridRight.l4 N) n d k) g = loopP (spec_GridRight.l4 N) n d fun e => bindF (k e) g := bindF_loopP (fun d kn kx => by simp only [spec_GridRight.l4, bindF_ifB, bindF_bindO, bindF_pure, bindF_none, bindF_onSum]) n d k
theorem spec_GridRight.b (N : Nat) (x0 : den s28) : body (spec_GridRight.cfg N) N Tryd.f24 [.one] [.v] [(false, .imm)] [⟨s28, .imm, x0⟩] (fun r i => some (r, i)) = bindO (spec_GridRight N x0) fun r => some ([⟨.bool, .imm, r⟩], []) := by
  show _ = bindF _ _
  conv => rhs; simp only [spec_GridRight, bindF_ifB, bindF_bindO, bindF_pure, bindF_none, bindF_onSum, spec_GridRight.q4]
  kernel_rfl
theorem spec_GridRight.ok (N : Nat) : ConOk Tryd.prog 24 [.one] (spec_GridRight.con N) := ok1 (g := spec_GridRight.cfg N) (N := N) (res := [(false, .imm)]) tys_ok (spec_GridRight.cons N) mixed Tryd.func24 (spec_GridRight.ls N) rfl (spec_GridRight.b N)
theorem spec_GridRight.det (N : Nat) : ConDet (spec_GridRight.con N) := det1
def spec_l08Half.con (N : Nat) : Con := { modes := [.v, .v], ptrs := [false], fn := fn2 s28 .imm (.int .i64) .imm (spec_l08Half N) (fun r => [⟨.bool, .imm, r⟩]) (fun r => []) }
def spec_l08Half.cfg (N : Nat) : Cfg := { ty := tys, keep := [17], flt := [], elm := elm0, live := [], ord := [], con := [((42, [.one]), spec_l08Wide.con N)], loops := [], joins := [] }
theorem spec_l08Half.cons (N : Nat) : ConsOk Tryd.prog (spec_l08Half.cfg N).con := (consOk_cons (hb42) (spec_l08Wide.ok N) (spec_l08Wide.det N) consOk_nil)
theorem spec_l08Half.ls (N : Nat) : LoopsOk Tryd.prog (spec_l08Half.cfg N) (fnBody Tryd.f25) := loopsL (l := []) (by kernel_rfl) trivial
theorem spec_l08Half.b (N : Nat) (x0 : den s28) (x1 : den (.int .i64)) : body (spec_l08Half.cfg N) N Tryd.f25 [.one, .one] [.v, .v] [(false, .imm)] [⟨s28, .imm, x0⟩, ⟨(.int .i64), .imm, x1⟩] (fun r i => some (r, i)) = bindO (spec_l08Half N x0 x1) fun r => some ([⟨.bool, .imm, r⟩], []) := by
  show _ = bindF _ _
  conv => rhs; simp only [spec_l08Half, bindF_ifB, bindF_bindO, bindF_pure, bindF_none, bindF_onSum]
  kernel_rfl
theorem spec_l08Half.ok (N : Nat) : ConOk Tryd.prog 25 [.one, .one] (spec_l08Half.con N) := ok2 (g := spec_l08Half.cfg N) (N := N) (res := [(false, .imm)]) tys_ok (spec_l08Half.cons N) mixed Tryd.func25 (spec_l08Half.ls N) rfl (spec_l08Half.b N)
theorem spec_l08Half.det (N : Nat) : ConDet (spec_l08Half.con N) := det2
def spec_FlatRight.sk4 : Skel := ⟨dd 1 (.ptr 50 [] :: (dd 1 (.pv (.int .i64) :: (dd 52 [])))), [⟨50, s28, .imm, true, false⟩]⟩
def spec_FlatRight.xs4 : List XS := [⟨.exit 0, [], ⟨dd 56 [], []⟩⟩, ⟨.ret, [2], ⟨dd 2 (.pv .bool :: (dd 53 [])), []⟩⟩]
def spec_FlatRight.sk8 : Skel := ⟨dd 1 (.ptr 50 [] :: (dd 1 (.pv (.int .i64) :: (.pv .bool :: (.pv (.int .i64) :: (dd 50 [])))))), [⟨50, s28, .imm, true, false⟩]⟩
def spec_FlatRight.xs8 : List XS := [⟨.exit 2, [1, 3], ⟨dd 1 (.ptr 50 [] :: (dd 1 (.pv (.int .i64) :: (dd 52 [])))), [⟨50, s28, .imm, true, false⟩]⟩⟩, ⟨.ret, [2], ⟨dd 2 (.pv .bool :: (dd 53 [])), []⟩⟩]
def spec_FlatRight.con (N : Nat) : Con := { modes := [.v], ptrs := [false], fn := fn1 s28 .imm (spec_FlatRight N) (fun r => [⟨.bool, .imm, r⟩]) (fun r => []) }
def spec_FlatRight.cfg (N : Nat) : Cfg := { ty := tys, keep := [8, 39], flt := [], elm := elm0, live := [(8, [1, 3, 4, 5]), (4, [1, 3])], ord := [], con := [((24, [.one]), spec_GridRight.con N), ((25, [.one, .one]), spec_l08Half.con N)], loops := [(4, loopCon N spec_FlatRight.sk4 spec_FlatRight.xs4 (fun {R} => spec_FlatRight.l4 (R := R) N)), (8, loopCon N spec_FlatRight.sk8 spec_FlatRight.xs8 (fun {R} => spec_FlatRight.l8 (R := R) N))], joins := [(9, [⟨.normal, [1, 3, 4, 5], ⟨dd 1 (.ptr 50 [] :: (dd 1 (.pv (.int .i64) :: (.pv .bool :: (.pv (.int .i64) :: (dd 50 [])))))), [⟨50, s28, .imm, true, false⟩]⟩⟩, ⟨.ret, [2], ⟨dd 2 (.pv .bool :: (dd 53 [])), []⟩⟩])] }
theorem spec_FlatRight.cons (N : Nat) : ConsOk Tryd.prog (spec_FlatRight.cfg N).con := (consOk_cons (hb24) (spec_GridRight.ok N) (spec_GridRight.det N) (consOk_cons (hb25) (spec_l08Half.ok N) (spec_l08Half.det N) consOk_nil))
theorem spec_FlatRight.h8 {R : Type} (N : Nat) (d : spec_FlatRight.sk8.D) (kn : spec_FlatRight.sk8.D → Option R) (kx : XD spec_FlatRight.xs8 → Option R) : roundK (spec_FlatRight.cfg N) N (nthLoop (fnBody Tryd.f10) 1) spec_FlatRight.sk8 spec_FlatRight.xs8 d kn kx = spec_FlatRight.l8 N d kn kx := by kernel_rfl
theorem spec_FlatRight.i8 (N : Nat) : LoopsOk Tryd.prog (spec_FlatRight.cfg N) (nthLoop (fnBody Tryd.f10) 1) := loopsL (l := []) (by kernel_rfl) trivial
theorem spec_FlatRight.o8 (N : Nat) : LoopOk Tryd.prog (nthLoop (fnBody Tryd.f10) 1) (loopCon N spec_FlatRight.sk8 spec_FlatRight.xs8 (fun {R} => spec_FlatRight.l8 (R := R) N)) := loop_ok (g := spec_FlatRight.cfg N) tys_ok (spec_FlatRight.cons N) mixed (spec_FlatRight.i8 N) (fun d kn kx => spec_FlatRight.h8 N d kn kx)
theorem spec_FlatRight.h4 {R : Type} (N : Nat) (d : spec_FlatRight.sk4.D) (kn : spec_FlatRight.sk4.D → Option R) (kx : XD spec_FlatRight.xs4 → Option R) : roundK (spec_FlatRight.cfg N) N (nthLoop (fnBody Tryd.f10) 0) spec_FlatRight.sk4 spec_FlatRight.xs4 d kn kx = spec_FlatRight.l4 N d kn kx := by kernel_rfl
theorem spec_FlatRight.i4 (N : Nat) : LoopsOk Tryd.prog (spec_FlatRight.cfg N) (nthLoop (fnBody Tryd.f10) 0) := loopsL (l := [nthLoop (fnBody Tryd.f10) 1]) (by kernel_rfl) ⟨loopOne (L0 := loopCon N spec_FlatRight.sk8 spec_FlatRight.xs8 (fun {R} => spec_FlatRight.l8 (R := R) N)) (id := 8) (by kernel_rfl) (by kernel_rfl) (spec_FlatRight.o8 N), trivial⟩
theorem spec_FlatRight.o4 (N : Nat) : LoopOk Tryd.prog (nthLoop (fnBody Tryd.f10) 0) (loopCon N spec_FlatRight.sk4 spec_FlatRight.xs4 (fun {R} => spec_FlatRight.l4 (R := R) N)) := loop_ok (g := spec_FlatRight.cfg N) tys_ok (spec_FlatRight.cons N) mixed (spec_FlatRight.i4 N) (fun d kn kx => spec_FlatRight.h4 N d kn kx)
theorem spec_FlatRight.ls (N : Nat) : LoopsOk Tryd.prog (spec_FlatRight.cfg N) (fnBody Tryd.f10) := loopsL (l := [nthLoop (fnBody Tryd.f10) 0, nthLoop (fnBody Tryd.f10) 1]) (by kernel_rfl) ⟨loopOne (L0 := loopCon N spec_FlatRight.sk4 spec_FlatRight.xs4 (fun {R} => spec_FlatRight.l4 (R := R) N)) (id := 4) (by kernel_rfl) (by kernel_rfl) (spec_FlatRight.o4 N), ⟨loopOne (L0 := loopCon N spec_FlatRight.sk8 spec_FlatRight.xs8 (fun {R} => spec_FlatRight.l8 (R := R) N)) (id := 8) (by kernel_rfl) (by kernel_rfl) (spec_FlatRight.o8 N), trivial⟩⟩
theorem spec_FlatRight.q8 {R R' : Type} {N n : Nat} {d} {k} {g : R → Option R'} : bindF (loopP (spec_FlatRight.l8 N) n d k) g = loopP (spec_FlatRight.l8 N) n d fun e => bindF (k e) g := bindF_loopP (fun d kn kx => by simp only [spec_FlatRight.l8, bindF_ifB, bindF_bindO, bindF_pure, bindF_none, bindF_onSum]) n d k
theorem spec_FlatRight.q4 {R R' : Type} {N n : Nat} {d} {k} {g : R → Option R'} : bindF (loopP (spec_FlatRight.l4 N) n d k) g = loopP (spec_FlatRight.l4 N) n d fun e => bindF (k e) g := bindF_loopP (fun d kn kx => by simp only [spec_FlatRight.l4, bindF_ifB, bindF_bindO, bindF_pure, bindF_none, bindF_onSum, spec_FlatRight.q8]) n d k
theorem spec_FlatRight.b (N : Nat) (x0 : den s28) : body (spec_FlatRight.cfg N) N Tryd.f10 [.one] [.v] [(false, .imm)] [⟨s28, .imm, x0⟩] (fun r i => some (r, i)) = bindO (spec_FlatRight N x0) fun r => some ([⟨.bool, .imm, r⟩], []) := by
  show _ = bindF _ _
  conv => rhs; simp only [spec_FlatRight, bindF_ifB, bindF_bindO, bindF_pure, bindF_none, bindF_onSum, spec_FlatRight.q4, spec_FlatRight.q8]
  kernel_rfl
theorem spec_FlatRight.ok (N : Nat) : ConOk Tryd.prog 10 [.one] (spec_FlatRight.con N) := ok1 (g := spec_FlatRight.cfg N) (N := N) (res := [(false, .imm)]) tys_ok (spec_FlatRight.cons N) mixed Tryd.func10 (spec_FlatRight.ls N) rfl (spec_FlatRight.b N)
theorem spec_FlatRight.det (N : Nat) : ConDet (spec_FlatRight.con N) := det1
def spec_l01Same.sk4 : Skel := ⟨.pv s36 :: (.pv s36 :: (dd 3 (.pv (.int .i64) :: (dd 20 [])))), []⟩
def spec_l01Same.xs4 : List XS := [⟨.exit 0, [], ⟨dd 26 [], []⟩⟩, ⟨.ret, [4], ⟨dd 4 (.pv .bool :: (dd 21 [])), []⟩⟩]
def spec_l01Same.con (N : Nat) : Con := { modes := [.v, .v], ptrs := [false], fn := fn2 s36 .imm s36 .imm (spec_l01Same N) (fun r => [⟨.bool, .imm, r⟩]) (fun r => []) }
def spec_l01Same.cfg (N : Nat) : Cfg := { ty := tys, keep := [], flt := [], elm := elm0, live := [(4, [0, 1, 5])], ord := [(6, [0, 1, 2, 3, 4, 5, 6, 7, 8])], con := [], loops := [(4, loopCon N spec_l01Same.sk4 spec_l01Same.xs4 (fun {R} => spec_l01Same.l4 (R := R) N))], joins := [] }
theorem spec_l01Same.cons (N : Nat) : ConsOk Tryd.prog (spec_l01Same.cfg N).con := consOk_nil
theorem spec_l01Same.h4 {R : Type} (N : Nat) (d : spec_l01Same.sk4.D) (kn : spec_l01Same.sk4.D → Option R) (kx : XD spec_l01Same.xs4 → Option R) : roundK (spec_l01Same.cfg N) N (nthLoop (fnBody Tryd.f11) 0) spec_l01Same.sk4 spec_l01Same.xs4 d kn kx = spec_l01Same.l4 N d kn kx := by kernel_rfl
theorem spec_l01Same.i4 (N : Nat) : LoopsOk Tryd.prog (spec_l01Same.cfg N) (nthLoop (fnBody Tryd.f11) 0) := loopsL (l := []) (by kernel_rfl) trivial
theorem spec_l01Same.o4 (N : Nat) : LoopOk Tryd.prog (nthLoop (fnBody Tryd.f11) 0) (loopCon N spec_l01Same.sk4 spec_l01Same.xs4 (fun {R} => spec_l01Same.l4 (R := R) N)) := loop_ok (g := spec_l01Same.cfg N) tys_ok (spec_l01Same.cons N) mixed (spec_l01Same.i4 N) (fun d kn kx => spec_l01Same.h4 N d kn kx)
theorem spec_l01Same.ls (N : Nat) : LoopsOk Tryd.prog (spec_l01Same.cfg N) (fnBody Tryd.f11) := loopsL (l := [nthLoop (fnBody Tryd.f11) 0]) (by kernel_rfl) ⟨loopOne (L0 := loopCon N spec_l01Same.sk4 spec_l01Same.xs4 (fun {R} => spec_l01Same.l4 (R := R) N)) (id := 4) (by kernel_rfl) (by kernel_rfl) (spec_l01Same.o4 N), trivial⟩
theorem spec_l01Same.q4 {R R' : Type} {N n : Nat} {d} {k} {g : R → Option R'} : bindF (loopP (spec_l01Same.l4 N) n d k) g = loopP (spec_l01Same.l4 N) n d fun e => bindF (k e) g := bindF_loopP (fun d kn kx => by simp only [spec_l01Same.l4, bindF_ifB, bindF_bindO, bindF_pure, bindF_none, bindF_onSum]) n d k
theorem spec_l01Same.b (N : Nat) (x0 : den s36) (x1 : den s36) : body (spec_l01Same.cfg N) N Tryd.f11 [.one, .one] [.v, .v] [(false, .imm)] [⟨s36, .imm, x0⟩, ⟨s36, .imm, x1⟩] (fun r i => some (r, i)) = bindO (spec_l01Same N x0 x1) fun r => some ([⟨.bool, .imm, r⟩], []) := by
  show _ = bindF _ _
  conv => rhs; simp only [spec_l01Same, bindF_ifB, bindF_bindO, bindF_pure, bindF_none, bindF_onSum, spec_l01Same.q4]
  kernel_rfl
theorem spec_l01Same.ok (N : Nat) : ConOk Tryd.prog 11 [.one, .one] (spec_l01Same.con N) := ok2 (g := spec_l01Same.cfg N) (N := N) (res := [(false, .imm)]) tys_ok (spec_l01Same.cons N) mixed Tryd.func11 (spec_l01Same.ls N) rfl (spec_l01Same.b N)
theorem spec_l01Same.det (N : Nat) : ConDet (spec_l01Same.con N) := det2
def spec_l01Dec.sk5 : Skel := ⟨.pv (.int .i64) :: (dd 2 (.pv .bool :: (.pv .str :: (dd 26 [])))), []⟩
def spec_l01Dec.xs5 : List XS := [⟨.exit 0, [3, 4], ⟨dd 3 (.pv .bool :: (.pv .str :: (dd 26 []))), []⟩⟩]
def spec_l01Dec.con (N : Nat) : Con := { modes := [.v], ptrs := [false], fn := fn1 (.int .i64) .imm (spec_l01Dec N) (fun r => [⟨.str, .imm, r⟩]) (fun r => []) }
def spec_l01Dec.cfg (N : Nat) : Cfg := { ty := tys, keep := [], flt := [], elm := elm0, live := [(5, [0, 3, 4])], ord := [], con := [], loops := [(5, loopCon N spec_l01Dec.sk5 spec_l01Dec.xs5 (fun {R} => spec_l01Dec.l5 (R := R) N))], joins := [] }
theorem spec_l01Dec.cons (N : Nat) : ConsOk Tryd.prog (spec_l01Dec.cfg N).con := consOk_nil
theorem spec_l01Dec.h5 {R : Type} (N : Nat) (d : spec_l01Dec.sk5.D) (kn : spec_l01Dec.sk5.D → Option R) (kx : XD spec_l01Dec.xs5 → Option R) : roundK (spec_l01Dec.cfg N) N (nthLoop (fnBody Tryd.f13) 0) spec_l01Dec.sk5 spec_l01Dec.xs5 d kn kx = spec_l01Dec.l5 N d kn kx := by kernel_rfl
theorem spec_l01Dec.i5 (N : Nat) : LoopsOk Tryd.prog (spec_l01Dec.cfg N) (nthLoop (fnBody Tryd.f13) 0) := loopsL (l := []) (by kernel_rfl) trivial
theorem spec_l01Dec.o5 (N : Nat) : LoopOk Tryd.prog (nthLoop (fnBody Tryd.f13) 0) (loopCon N spec_l01Dec.sk5 spec_l01Dec.xs5 (fun {R} => spec_l01Dec.l5 (R := R) N)) := loop_ok (g := spec_l01Dec.cfg N) tys_ok (spec_l01Dec.cons N) mixed (spec_l01Dec.i5 N) (fun d kn kx => spec_l01Dec.h5 N d kn kx)
theorem spec_l01Dec.ls (N : Nat) : LoopsOk Tryd.prog (spec_l01Dec.cfg N) (fnBody Tryd.f13) := loopsL (l := [nthLoop (fnBody Tryd.f13) 0]) (by kernel_rfl) ⟨loopOne (L0 := loopCon N spec_l01Dec.sk5 spec_l01Dec.xs5 (fun {R} => spec_l01Dec.l5 (R := R) N)) (id := 5) (by kernel_rfl) (by kernel_rfl) (spec_l01Dec.o5 N), trivial⟩
theorem spec_l01Dec.q5 {R R' : Type} {N n : Nat} {d} {k} {g : R → Option R'} : bindF (loopP (spec_l01Dec.l5 N) n d k) g = loopP (spec_l01Dec.l5 N) n d fun e => bindF (k e) g := bindF_loopP (fun d kn kx => by simp only [spec_l01Dec.l5, bindF_ifB, bindF_bindO, bindF_pure, bindF_none, bindF_onSum]) n d k
theorem spec_l01Dec.b (N : Nat) (x0 : den (.int .i64)) : body (spec_l01Dec.cfg N) N Tryd.f13 [.one] [.v] [(false, .imm)] [⟨(.int .i64), .imm, x0⟩] (fun r i => some (r, i)) = bindO (spec_l01Dec N x0) fun r => some ([⟨.str, .imm, r⟩], []) := by
  show _ = bindF _ _
  conv => rhs; simp only [spec_l01Dec, bindF_ifB, bindF_bindO, bindF_pure, bindF_none, bindF_onSum, spec_l01Dec.q5]
  kernel_rfl
theorem spec_l01Dec.ok (N : Nat) : ConOk Tryd.prog 13 [.one] (spec_l01Dec.con N) := ok1 (g := spec_l01Dec.cfg N) (N := N) (res := [(false, .imm)]) tys_ok (spec_l01Dec.cons N) mixed Tryd.func13 (spec_l01Dec.ls N) rfl (spec_l01Dec.b N)
theorem spec_l01Dec.det (N : Nat) : ConDet (spec_l01Dec.con N) := det1
def spec_l01Bytes.con (N : Nat) : Con := { modes := [.v], ptrs := [false], fn := fn1 (.int .i64) .imm (spec_l01Bytes N) (fun r => [⟨s35, (.own .imm), r⟩]) (fun r => []) }
def spec_l01Bytes.cfg (N : Nat) : Cfg := { ty := tys, keep := [], flt := [], elm := elm0, live := [], ord := [], con := [], loops := [], joins := [] }
theorem spec_l01Bytes.cons (N : Nat) : ConsOk Tryd.prog (spec_l01Bytes.cfg N).con := consOk_nil
theorem spec_l01Bytes.ls (N : Nat) : LoopsOk Tryd.prog (spec_l01Bytes.cfg N) (fnBody Tryd.f43) := loopsL (l := []) (by kernel_rfl) trivial
theorem spec_l01Bytes.b (N : Nat) (x0 : den (.int .i64)) : body (spec_l01Bytes.cfg N) N Tryd.f43 [.one] [.v] [(false, (.own .imm))] [⟨(.int .i64), .imm, x0⟩] (fun r i => some (r, i)) = bindO (spec_l01Bytes N x0) fun r => some ([⟨s35, (.own .imm), r⟩], []) := by
  show _ = bindF _ _
  conv => rhs; simp only [spec_l01Bytes, bindF_ifB, bindF_bindO, bindF_pure, bindF_none, bindF_onSum]
  kernel_rfl
theorem spec_l01Bytes.ok (N : Nat) : ConOk Tryd.prog 43 [.one] (spec_l01Bytes.con N) := ok1 (g := spec_l01Bytes.cfg N) (N := N) (res := [(false, (.own .imm))]) tys_ok (spec_l01Bytes.cons N) mixed Tryd.func43 (spec_l01Bytes.ls N) rfl (spec_l01Bytes.b N)
theorem spec_l01Bytes.det (N : Nat) : ConDet (spec_l01Bytes.con N) := det1
def spec_l01Text.sk3 : Skel := ⟨.pv s36 :: (dd 2 (.ov 50 [] :: (.pv (.int .i64) :: (dd 16 [])))), [⟨50, s35, (.own .imm), false, false⟩]⟩
def spec_l01Text.xs3 : List XS := [⟨.exit 0, [3], ⟨dd 3 (.ov 50 [] :: (dd 17 [])), [⟨50, s35, (.own .imm), false, false⟩]⟩⟩]
def spec_l01Text.con (N : Nat) : Con := { modes := [.v], ptrs := [false], fn := fn1 s36 .imm (spec_l01Text N) (fun r => [⟨.str, .imm, r⟩]) (fun r => []) }
def spec_l01Text.cfg (N : Nat) : Cfg := { ty := tys, keep := [17], flt := [], elm := elm0, live := [(3, [0, 3, 4])], ord := [], con := [((43, [.one]), spec_l01Bytes.con N)], loops := [(3, loopCon N spec_l01Text.sk3 spec_l01Text.xs3 (fun {R} => spec_l01Text.l3 (R := R) N))], joins := [] }
theorem spec_l01Text.cons (N : Nat) : ConsOk Tryd.prog (spec_l01Text.cfg N).con := (consOk_cons (hb43) (spec_l01Bytes.ok N) (spec_l01Bytes.det N) consOk_nil)
theorem spec_l01Text.h3 {R : Type} (N : Nat) (d : spec_l01Text.sk3.D) (kn : spec_l01Text.sk3.D → Option R) (kx : XD spec_l01Text.xs3 → Option R) : roundK (spec_l01Text.cfg N) N (nthLoop (fnBody Tryd.f26) 0) spec_l01Text.sk3 spec_l01Text.xs3 d kn kx = spec_l01Text.l3 N d kn kx := by kernel_rfl
theorem spec_l01Text.i3 (N : Nat) : LoopsOk Tryd.prog (spec_l01Text.cfg N) (nthLoop (fnBody Tryd.f26) 0) := loopsL (l := []) (by kernel_rfl) trivial
theorem spec_l01Text.o3 (N : Nat) : LoopOk Tryd.prog (nthLoop (fnBody Tryd.f26) 0) (loopCon N spec_l01Text.sk3 spec_l01Text.xs3 (fun {R} => spec_l01Text.l3 (R := R) N)) := loop_ok (g := spec_l01Text.cfg N) tys_ok (spec_l01Text.cons N) mixed (spec_l01Text.i3 N) (fun d kn kx => spec_l01Text.h3 N d kn kx)
theorem spec_l01Text.ls (N : Nat) : LoopsOk Tryd.prog (spec_l01Text.cfg N) (fnBody Tryd.f26) := loopsL (l := [nthLoop (fnBody Tryd.f26) 0]) (by kernel_rfl) ⟨loopOne (L0 := loopCon N spec_l01Text.sk3 spec_l01Text.xs3 (fun {R} => spec_l01Text.l3 (R := R) N)) (id := 3) (by kernel_rfl) (by kernel_rfl) (spec_l01Text.o3 N), trivial⟩
theorem spec_l01Text.q3 {R R' : Type} {N n : Nat} {d} {k} {g : R → Option R'} : bindF (loopP (spec_l01Text.l3 N) n d k) g = loopP (spec_l01Text.l3 N) n d fun e => bindF (k e) g := bindF_loopP (fun d kn kx => by simp only [spec_l01Text.l3, bindF_ifB, bindF_bindO, bindF_pure, bindF_none, bindF_onSum]) n d k
theorem spec_l01Text.b (N : Nat) (x0 : den s36) : body (spec_l01Text.cfg N) N Tryd.f26 [.one] [.v] [(false, .imm)] [⟨s36, .imm, x0⟩] (fun r i => some (r, i)) = bindO (spec_l01Text N x0) fun r => some ([⟨.str, .imm, r⟩], []) := by
  show _ = bindF _ _
  conv => rhs; simp only [spec_l01Text, bindF_ifB, bindF_bindO, bindF_pure, bindF_none, bindF_onSum, spec_l01Text.q3]
  kernel_rfl
theorem spec_l01Text.ok (N : Nat) : ConOk Tryd.prog 26 [.one] (spec_l01Text.con N) := ok1 (g := spec_l01Text.cfg N) (N := N) (res := [(false, .imm)]) tys_ok (spec_l01Text.cons N) mixed Tryd.func26 (spec_l01Text.ls N) rfl (spec_l01Text.b N)
theorem spec_l01Text.det (N : Nat) : ConDet (spec_l01Text.con N) := det1
def spec_l10Row.sk4 : Skel := ⟨dd 1 (.pv (.int .i64) :: (.ptr 50 [] :: (dd 2 (.ov 51 [] :: (.pv (.int .i64) :: (.pv (.int .i64) :: (dd 50 []))))))), [⟨50, s28, .imm, true, false⟩, ⟨51, s35, (.own .imm), false, false⟩]⟩
def spec_l10Row.xs4 : List XS := [⟨.exit 0, [5, 6], ⟨dd 5 (.ov 50 [] :: (.pv (.int .i64) :: (dd 51 []))), [⟨50, s35, (.own .imm), false, false⟩]⟩⟩]
def spec_l10Row.con (N : Nat) : Con := { modes := [.v, .v], ptrs := [false], fn := fn2 s28 .imm (.int .i64) .imm (spec_l10Row N) (fun r => [⟨s35, (.own .imm), r⟩]) (fun r => []) }
def spec_l10Row.cfg (N : Nat) : Cfg := { ty := tys, keep := [11, 42, 51], flt := [], elm := elm0, live := [(4, [1, 2, 5, 6, 7])], ord := [], con := [((13, [.one]), spec_l01Dec.con N), ((26, [.one]), spec_l01Text.con N)], loops := [(4, loopCon N spec_l10Row.sk4 spec_l10Row.xs4 (fun {R} => spec_l10Row.l4 (R := R) N))], joins := [(5, [⟨.normal, [1, 2, 5, 6, 7], ⟨dd 1 (.pv (.int .i64) :: (.ptr 50 [] :: (dd 2 (.ov 51 [] :: (.pv (.int .i64) :: (.pv (.int .i64) :: (dd 50 []))))))), [⟨50, s28, .imm, true, false⟩, ⟨51, s35, (.own .imm), false, false⟩]⟩⟩])] }
theorem spec_l10Row.cons (N : Nat) : ConsOk Tryd.prog (spec_l10Row.cfg N).con := (consOk_cons (hb13) (spec_l01Dec.ok N) (spec_l01Dec.det N) (consOk_cons (hb26) (spec_l01Text.ok N) (spec_l01Text.det N) consOk_nil))
theorem spec_l10Row.h4 {R : Type} (N : Nat) (d : spec_l10Row.sk4.D) (kn : spec_l10Row.sk4.D → Option R) (kx : XD spec_l10Row.xs4 → Option R) : roundK (spec_l10Row.cfg N) N (nthLoop (fnBody Tryd.f12) 0) spec_l10Row.sk4 spec_l10Row.xs4 d kn kx = spec_l10Row.l4 N d kn kx := by kernel_rfl
theorem spec_l10Row.i4 (N : Nat) : LoopsOk Tryd.prog (spec_l10Row.cfg N) (nthLoop (fnBody Tryd.f12) 0) := loopsL (l := []) (by kernel_rfl) trivial
theorem spec_l10Row.o4 (N : Nat) : LoopOk Tryd.prog (nthLoop (fnBody Tryd.f12) 0) (loopCon N spec_l10Row.sk4 spec_l10Row.xs4 (fun {R} => spec_l10Row.l4 (R := R) N)) := loop_ok (g := spec_l10Row.cfg N) tys_ok (spec_l10Row.cons N) mixed (spec_l10Row.i4 N) (fun d kn kx => spec_l10Row.h4 N d kn kx)
theorem spec_l10Row.ls (N : Nat) : LoopsOk Tryd.prog (spec_l10Row.cfg N) (fnBody Tryd.f12) := loopsL (l := [nthLoop (fnBody Tryd.f12) 0]) (by kernel_rfl) ⟨loopOne (L0 := loopCon N spec_l10Row.sk4 spec_l10Row.xs4 (fun {R} => spec_l10Row.l4 (R := R) N)) (id := 4) (by kernel_rfl) (by kernel_rfl) (spec_l10Row.o4 N), trivial⟩
theorem spec_l10Row.q4 {R R' : Type} {N n : Nat} {d} {k} {g : R → Option R'} : bindF (loopP (spec_l10Row.l4 N) n d k) g = loopP (spec_l10Row.l4 N) n d fun e => bindF (k e) g := bindF_loopP (fun d kn kx => by simp only [spec_l10Row.l4, bindF_ifB, bindF_bindO, bindF_pure, bindF_none, bindF_onSum]) n d k
theorem spec_l10Row.b (N : Nat) (x0 : den s28) (x1 : den (.int .i64)) : body (spec_l10Row.cfg N) N Tryd.f12 [.one, .one] [.v, .v] [(false, (.own .imm))] [⟨s28, .imm, x0⟩, ⟨(.int .i64), .imm, x1⟩] (fun r i => some (r, i)) = bindO (spec_l10Row N x0 x1) fun r => some ([⟨s35, (.own .imm), r⟩], []) := by
  show _ = bindF _ _
  conv => rhs; simp only [spec_l10Row, bindF_ifB, bindF_bindO, bindF_pure, bindF_none, bindF_onSum, spec_l10Row.q4]
  kernel_rfl
theorem spec_l10Row.ok (N : Nat) : ConOk Tryd.prog 12 [.one, .one] (spec_l10Row.con N) := ok2 (g := spec_l10Row.cfg N) (N := N) (res := [(false, (.own .imm))]) tys_ok (spec_l10Row.cons N) mixed Tryd.func12 (spec_l10Row.ls N) rfl (spec_l10Row.b N)
theorem spec_l10Row.det (N : Nat) : ConDet (spec_l10Row.con N) := det2
def spec_Send.sk5 : Skel := ⟨dd 2 (.ptr 50 [] :: (.ptr 51 [] :: (dd 1 (.ov 52 [] :: (.pv (.int .i64) :: (dd 114 [])))))), [⟨50, s28, .imm, true, false⟩, ⟨51, s28, .imm, true, false⟩, ⟨52, s35, (.own .imm), false, false⟩]⟩
def spec_Send.xs5 : List XS := [⟨.exit 0, [2, 3, 5], ⟨dd 2 (.ptr 50 [] :: (.ptr 51 [] :: (dd 1 (.ov 52 [] :: (dd 115 []))))), [⟨50, s28, .imm, true, false⟩, ⟨51, s28, .imm, true, false⟩, ⟨52, s35, (.own .imm), false, false⟩]⟩⟩]
def spec_Send.sk9 : Skel := ⟨dd 2 (.ptr 50 [] :: (.ptr 51 [] :: (dd 1 (.ov 52 [] :: (.pv (.int .i64) :: (.pv .bool :: (.pv (.int .i64) :: (dd 112 [])))))))), [⟨50, s28, .imm, true, false⟩, ⟨51, s28, .imm, true, false⟩, ⟨52, s35, (.own .imm), false, false⟩]⟩
def spec_Send.xs9 : List XS := [⟨.exit 2, [2, 3, 5, 6, 7], ⟨dd 2 (.ptr 50 [] :: (.ptr 51 [] :: (dd 1 (.ov 52 [] :: (.pv (.int .i64) :: (.pv .bool :: (dd 113 []))))))), [⟨50, s28, .imm, true, false⟩, ⟨51, s28, .imm, true, false⟩, ⟨52, s35, (.own .imm), false, false⟩]⟩⟩]
def spec_Send.con (N : Nat) : Con := { modes := [.v, .v], ptrs := [false], fn := fn2 s28 .imm s28 .imm (spec_Send N) (fun r => [⟨.str, .imm, r⟩]) (fun r => []) }
def spec_Send.cfg (N : Nat) : Cfg := { ty := tys, keep := [12, 16, 79, 86, 109, 115], flt := [], elm := elm0, live := [(9, [2, 3, 5, 6, 7, 8]), (5, [2, 3, 5, 6])], ord := [(17, [0, 1, 2, 3, 7, 8, 9, 4, 5, 6, 10, 11, 12, 13, 14])], con := [((10, [.one]), spec_FlatRight.con N), ((11, [.one, .one]), spec_l01Same.con N), ((12, [.one, .one]), spec_l10Row.con N), ((13, [.one]), spec_l01Dec.con N)], loops := [(5, loopCon N spec_Send.sk5 spec_Send.xs5 (fun {R} => spec_Send.l5 (R := R) N)), (9, loopCon N spec_Send.sk9 spec_Send.xs9 (fun {R} => spec_Send.l9 (R := R) N))], joins := [(6, [⟨.normal, [2, 3, 5, 6], ⟨dd 2 (.ptr 50 [] :: (.ptr 51 [] :: (dd 1 (.ov 52 [] :: (.pv (.int .i64) :: (dd 114 [])))))), [⟨50, s28, .imm, true, false⟩, ⟨51, s28, .imm, true, false⟩, ⟨52, s35, (.own .imm), false, false⟩]⟩⟩])] }
theorem spec_Send.cons (N : Nat) : ConsOk Tryd.prog (spec_Send.cfg N).con := (consOk_cons (hb10) (spec_FlatRight.ok N) (spec_FlatRight.det N) (consOk_cons (hb11) (spec_l01Same.ok N) (spec_l01Same.det N) (consOk_cons (hb12) (spec_l10Row.ok N) (spec_l10Row.det N) (consOk_cons (hb13) (spec_l01Dec.ok N) (spec_l01Dec.det N) consOk_nil))))
theorem spec_Send.h9 {R : Type} (N : Nat) (d : spec_Send.sk9.D) (kn : spec_Send.sk9.D → Option R) (kx : XD spec_Send.xs9 → Option R) : roundK (spec_Send.cfg N) N (nthLoop (fnBody Tryd.f5) 1) spec_Send.sk9 spec_Send.xs9 d kn kx = spec_Send.l9 N d kn kx := by kernel_rfl
theorem spec_Send.i9 (N : Nat) : LoopsOk Tryd.prog (spec_Send.cfg N) (nthLoop (fnBody Tryd.f5) 1) := loopsL (l := []) (by kernel_rfl) trivial
theorem spec_Send.o9 (N : Nat) : LoopOk Tryd.prog (nthLoop (fnBody Tryd.f5) 1) (loopCon N spec_Send.sk9 spec_Send.xs9 (fun {R} => spec_Send.l9 (R := R) N)) := loop_ok (g := spec_Send.cfg N) tys_ok (spec_Send.cons N) mixed (spec_Send.i9 N) (fun d kn kx => spec_Send.h9 N d kn kx)
theorem spec_Send.h5 {R : Type} (N : Nat) (d : spec_Send.sk5.D) (kn : spec_Send.sk5.D → Option R) (kx : XD spec_Send.xs5 → Option R) : roundK (spec_Send.cfg N) N (nthLoop (fnBody Tryd.f5) 0) spec_Send.sk5 spec_Send.xs5 d kn kx = spec_Send.l5 N d kn kx := by kernel_rfl
theorem spec_Send.i5 (N : Nat) : LoopsOk Tryd.prog (spec_Send.cfg N) (nthLoop (fnBody Tryd.f5) 0) := loopsL (l := [nthLoop (fnBody Tryd.f5) 1]) (by kernel_rfl) ⟨loopOne (L0 := loopCon N spec_Send.sk9 spec_Send.xs9 (fun {R} => spec_Send.l9 (R := R) N)) (id := 9) (by kernel_rfl) (by kernel_rfl) (spec_Send.o9 N), trivial⟩
theorem spec_Send.o5 (N : Nat) : LoopOk Tryd.prog (nthLoop (fnBody Tryd.f5) 0) (loopCon N spec_Send.sk5 spec_Send.xs5 (fun {R} => spec_Send.l5 (R := R) N)) := loop_ok (g := spec_Send.cfg N) tys_ok (spec_Send.cons N) mixed (spec_Send.i5 N) (fun d kn kx => spec_Send.h5 N d kn kx)
theorem spec_Send.ls (N : Nat) : LoopsOk Tryd.prog (spec_Send.cfg N) (fnBody Tryd.f5) := loopsL (l := [nthLoop (fnBody Tryd.f5) 0, nthLoop (fnBody Tryd.f5) 1]) (by kernel_rfl) ⟨loopOne (L0 := loopCon N spec_Send.sk5 spec_Send.xs5 (fun {R} => spec_Send.l5 (R := R) N)) (id := 5) (by kernel_rfl) (by kernel_rfl) (spec_Send.o5 N), ⟨loopOne (L0 := loopCon N spec_Send.sk9 spec_Send.xs9 (fun {R} => spec_Send.l9 (R := R) N)) (id := 9) (by kernel_rfl) (by kernel_rfl) (spec_Send.o9 N), trivial⟩⟩
theorem spec_Send.q9 {R R' : Type} {N n : Nat} {d} {k} {g : R → Option R'} : bindF (loopP (spec_Send.l9 N) n d k) g = loopP (spec_Send.l9 N) n d fun e => bindF (k e) g := bindF_loopP (fun d kn kx => by simp only [spec_Send.l9, bindF_ifB, bindF_bindO, bindF_pure, bindF_none, bindF_onSum]) n d k
theorem spec_Send.q5 {R R' : Type} {N n : Nat} {d} {k} {g : R → Option R'} : bindF (loopP (spec_Send.l5 N) n d k) g = loopP (spec_Send.l5 N) n d fun e => bindF (k e) g := bindF_loopP (fun d kn kx => by simp only [spec_Send.l5, bindF_ifB, bindF_bindO, bindF_pure, bindF_none, bindF_onSum, spec_Send.q9]) n d k
theorem spec_Send.b (N : Nat) (x0 : den s28) (x1 : den s28) : body (spec_Send.cfg N) N Tryd.f5 [.one, .one] [.v, .v] [(false, .imm)] [⟨s28, .imm, x0⟩, ⟨s28, .imm, x1⟩] (fun r i => some (r, i)) = bindO (spec_Send N x0 x1) fun r => some ([⟨.str, .imm, r⟩], []) := by
  show _ = bindF _ _
  conv => rhs; simp only [spec_Send, bindF_ifB, bindF_bindO, bindF_pure, bindF_none, bindF_onSum, spec_Send.q5, spec_Send.q9]
  kernel_rfl
theorem spec_Send.ok (N : Nat) : ConOk Tryd.prog 5 [.one, .one] (spec_Send.con N) := ok2 (g := spec_Send.cfg N) (N := N) (res := [(false, .imm)]) tys_ok (spec_Send.cons N) mixed Tryd.func5 (spec_Send.ls N) rfl (spec_Send.b N)
theorem spec_Send.det (N : Nat) : ConDet (spec_Send.con N) := det2
def impl_within.con (N : Nat) : Con := { modes := [.v, .v, .v], ptrs := [false], fn := fn3 (.int .i64) .imm (.int .i64) .imm (.int .i64) .imm (impl_within N) (fun r => [⟨.bool, .imm, r⟩]) (fun r => []) }
def impl_within.cfg (N : Nat) : Cfg := { ty := tys, keep := [], flt := [], elm := elm0, live := [], ord := [], con := [], loops := [], joins := [] }
theorem impl_within.cons (N : Nat) : ConsOk Tryd.prog (impl_within.cfg N).con := consOk_nil
theorem impl_within.ls (N : Nat) : LoopsOk Tryd.prog (impl_within.cfg N) (fnBody Tryd.f47) := loopsL (l := []) (by kernel_rfl) trivial
theorem impl_within.b (N : Nat) (x0 : den (.int .i64)) (x1 : den (.int .i64)) (x2 : den (.int .i64)) : body (impl_within.cfg N) N Tryd.f47 [.one, .one, .one] [.v, .v, .v] [(false, .imm)] [⟨(.int .i64), .imm, x0⟩, ⟨(.int .i64), .imm, x1⟩, ⟨(.int .i64), .imm, x2⟩] (fun r i => some (r, i)) = bindO (impl_within N x0 x1 x2) fun r => some ([⟨.bool, .imm, r⟩], []) := by
  show _ = bindF _ _
  conv => rhs; simp only [impl_within, bindF_ifB, bindF_bindO, bindF_pure, bindF_none, bindF_onSum]
  kernel_rfl
theorem impl_within.ok (N : Nat) : ConOk Tryd.prog 47 [.one, .one, .one] (impl_within.con N) := ok3 (g := impl_within.cfg N) (N := N) (res := [(false, .imm)]) tys_ok (impl_within.cons N) mixed Tryd.func47 (impl_within.ls N) rfl (impl_within.b N)
theorem impl_within.det (N : Nat) : ConDet (impl_within.con N) := det3
def impl_isRows.con (N : Nat) : Con := { modes := [.v], ptrs := [false], fn := fn1 (.int .i64) .imm (impl_isRows N) (fun r => [⟨.bool, .imm, r⟩]) (fun r => []) }
def impl_isRows.cfg (N : Nat) : Cfg := { ty := tys, keep := [4], flt := [], elm := elm0, live := [], ord := [], con := [((47, [.one, .one, .one]), impl_within.con N)], loops := [], joins := [] }
theorem impl_isRows.cons (N : Nat) : ConsOk Tryd.prog (impl_isRows.cfg N).con := (consOk_cons (hb47) (impl_within.ok N) (impl_within.det N) consOk_nil)
theorem impl_isRows.ls (N : Nat) : LoopsOk Tryd.prog (impl_isRows.cfg N) (fnBody Tryd.f45) := loopsL (l := []) (by kernel_rfl) trivial
theorem impl_isRows.b (N : Nat) (x0 : den (.int .i64)) : body (impl_isRows.cfg N) N Tryd.f45 [.one] [.v] [(false, .imm)] [⟨(.int .i64), .imm, x0⟩] (fun r i => some (r, i)) = bindO (impl_isRows N x0) fun r => some ([⟨.bool, .imm, r⟩], []) := by
  show _ = bindF _ _
  conv => rhs; simp only [impl_isRows, bindF_ifB, bindF_bindO, bindF_pure, bindF_none, bindF_onSum]
  kernel_rfl
theorem impl_isRows.ok (N : Nat) : ConOk Tryd.prog 45 [.one] (impl_isRows.con N) := ok1 (g := impl_isRows.cfg N) (N := N) (res := [(false, .imm)]) tys_ok (impl_isRows.cons N) mixed Tryd.func45 (impl_isRows.ls N) rfl (impl_isRows.b N)
theorem impl_isRows.det (N : Nat) : ConDet (impl_isRows.con N) := det1
end Go.AE.F
end
