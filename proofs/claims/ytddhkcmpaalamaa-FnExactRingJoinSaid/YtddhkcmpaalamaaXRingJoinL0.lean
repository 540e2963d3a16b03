/- The printed functions are what the program comes to: contracts. -/
import Derived.Test.YtddhkcmpaalamaaXRingJoinF2
import Derived.Test.YtddhkcmpaalamaaXRingJoinT
noncomputable section
namespace Go.AE.F
open Go.AE Go.Proofs
set_option maxRecDepth 100000
def laws_szInt64S.con (N : Nat) : Con := { modes := [.v, .v], ptrs := [false], fn := fn2 s25 .imm (.int .i64) .imm (laws_szInt64S N) (fun r => [⟨(.int .i64), .imm, r⟩]) (fun r => []) }
def laws_szInt64S.cfg (N : Nat) : Cfg := { ty := tys, keep := [], flt := [], elm := elm0, live := [], ord := [], con := [], loops := [], joins := [] }
theorem laws_szInt64S.cons (N : Nat) : ConsOk Try.prog (laws_szInt64S.cfg N).con := consOk_nil
theorem laws_szInt64S.ls (N : Nat) : LoopsOk Try.prog (laws_szInt64S.cfg N) (fnBody Try.f30) := loopsL (l := []) (by kernel_rfl) trivial
theorem laws_szInt64S.b (N : Nat) (x0 : den s25) (x1 : den (.int .i64)) : body (laws_szInt64S.cfg N) N Try.f30 [.one, .one] [.v, .v] [(false, .imm)] [⟨s25, .imm, x0⟩, ⟨(.int .i64), .imm, x1⟩] (fun r i => some (r, i)) = bindO (laws_szInt64S N x0 x1) fun r => some ([⟨(.int .i64), .imm, r⟩], []) := by
  show _ = bindF _ _
  conv => rhs; simp only [laws_szInt64S, bindF_ifB, bindF_bindO, bindF_pure, bindF_none, bindF_onSum]
  kernel_rfl
theorem laws_szInt64S.ok (N : Nat) : ConOk Try.prog 30 [.one, .one] (laws_szInt64S.con N) := ok2 (g := laws_szInt64S.cfg N) (N := N) (res := [(false, .imm)]) tys_ok (laws_szInt64S.cons N) mixed Try.func30 (laws_szInt64S.ls N) rfl (laws_szInt64S.b N)
theorem laws_szInt64S.det (N : Nat) : ConDet (laws_szInt64S.con N) := det2
def laws_szInt64SS.sk5 : Skel := ⟨.pv s22 :: (.pv (.int .i64) :: (dd 3 (.pv (.int .i64) :: (dd 21 [])))), []⟩
def laws_szInt64SS.xs5 : List XS := [⟨.exit 0, [1], ⟨dd 1 (.pv (.int .i64) :: (dd 25 [])), []⟩⟩, ⟨.ret, [4], ⟨dd 4 (.pv (.int .i64) :: (dd 22 [])), []⟩⟩]
def laws_szInt64SS.con (N : Nat) : Con := { modes := [.v, .v], ptrs := [false], fn := fn2 s22 .imm (.int .i64) .imm (laws_szInt64SS N) (fun r => [⟨(.int .i64), .imm, r⟩]) (fun r => []) }
def laws_szInt64SS.cfg (N : Nat) : Cfg := { ty := tys, keep := [23], flt := [], elm := elm0, live := [(5, [0, 1, 5])], ord := [], con := [((30, [.one, .one]), laws_szInt64S.con N)], loops := [(5, loopCon N laws_szInt64SS.sk5 laws_szInt64SS.xs5 (fun {R} => laws_szInt64SS.l5 (R := R) N))], joins := [] }
theorem laws_szInt64SS.cons (N : Nat) : ConsOk Try.prog (laws_szInt64SS.cfg N).con := (consOk_cons (hb30) (laws_szInt64S.ok N) (laws_szInt64S.det N) consOk_nil)
theorem laws_szInt64SS.h5 {R : Type} (N : Nat) (d : laws_szInt64SS.sk5.D) (kn : laws_szInt64SS.sk5.D → Option R) (kx : XD laws_szInt64SS.xs5 → Option R) : roundK (laws_szInt64SS.cfg N) N (nthLoop (fnBody Try.f14) 0) laws_szInt64SS.sk5 laws_szInt64SS.xs5 d kn kx = laws_szInt64SS.l5 N d kn kx := by kernel_rfl
theorem laws_szInt64SS.i5 (N : Nat) : LoopsOk Try.prog (laws_szInt64SS.cfg N) (nthLoop (fnBody Try.f14) 0) := loopsL (l := []) (by kernel_rfl) trivial
theorem laws_szInt64SS.o5 (N : Nat) : LoopOk Try.prog (nthLoop (fnBody Try.f14) 0) (loopCon N laws_szInt64SS.sk5 laws_szInt64SS.xs5 (fun {R} => laws_szInt64SS.l5 (R := R) N)) := loop_ok (g := laws_szInt64SS.cfg N) tys_ok (laws_szInt64SS.cons N) mixed (laws_szInt64SS.i5 N) (fun d kn kx => laws_szInt64SS.h5 N d kn kx)
theorem laws_szInt64SS.ls (N : Nat) : LoopsOk Try.prog (laws_szInt64SS.cfg N) (fnBody Try.f14) := loopsL (l := [nthLoop (fnBody Try.f14) 0]) (by kernel_rfl) ⟨loopOne (L0 := loopCon N laws_szInt64SS.sk5 laws_szInt64SS.xs5 (fun {R} => laws_szInt64SS.l5 (R := R) N)) (id := 5) (by kernel_rfl) (by kernel_rfl) (laws_szInt64SS.o5 N), trivial⟩
theorem laws_szInt64SS.q5 {R R' : Type} {N n : Nat} {d} {k} {g : R → Option R'} : bindF (loopP (laws_szInt64SS.l5 N) n d k) g = loopP (laws_szInt64SS.l5 N) n d fun e => bindF (k e) g := bindF_loopP (fun d kn kx => by simp only [laws_szInt64SS.l5, bindF_ifB, bindF_bindO, bindF_pure, bindF_none, bindF_onSum]) n d k
theorem laws_szInt64SS.b (N : Nat) (x0 : den s22) (x1 : den (.int .i64)) : body (laws_szInt64SS.cfg N) N Try.f14 [.one, .one] [.v, .v] [(false, .imm)] [⟨s22, .imm, x0⟩, ⟨(.int .i64), .imm, x1⟩] (fun r i => some (r, i)) = bindO (laws_szInt64SS N x0 x1) fun r => some ([⟨(.int .i64), .imm, r⟩], []) := by
  show _ = bindF _ _
  conv => rhs; simp only [laws_szInt64SS, bindF_ifB, bindF_bindO, bindF_pure, bindF_none, bindF_onSum, laws_szInt64SS.q5]
  kernel_rfl
theorem laws_szInt64SS.ok (N : Nat) : ConOk Try.prog 14 [.one, .one] (laws_szInt64SS.con N) := ok2 (g := laws_szInt64SS.cfg N) (N := N) (res := [(false, .imm)]) tys_ok (laws_szInt64SS.cons N) mixed Try.func14 (laws_szInt64SS.ls N) rfl (laws_szInt64SS.b N)
theorem laws_szInt64SS.det (N : Nat) : ConDet (laws_szInt64SS.con N) := det2
def laws_szRing.con (N : Nat) : Con := { modes := [.v, .v], ptrs := [false], fn := fn2 s23 .imm (.int .i64) .imm (laws_szRing N) (fun r => [⟨(.int .i64), .imm, r⟩]) (fun r => []) }
def laws_szRing.cfg (N : Nat) : Cfg := { ty := tys, keep := [8], flt := [], elm := elm0, live := [], ord := [], con := [((14, [.one, .one]), laws_szInt64SS.con N)], loops := [], joins := [] }
theorem laws_szRing.cons (N : Nat) : ConsOk Try.prog (laws_szRing.cfg N).con := (consOk_cons (hb14) (laws_szInt64SS.ok N) (laws_szInt64SS.det N) consOk_nil)
theorem laws_szRing.ls (N : Nat) : LoopsOk Try.prog (laws_szRing.cfg N) (fnBody Try.f4) := loopsL (l := []) (by kernel_rfl) trivial
theorem laws_szRing.b (N : Nat) (x0 : den s23) (x1 : den (.int .i64)) : body (laws_szRing.cfg N) N Try.f4 [.one, .one] [.v, .v] [(false, .imm)] [⟨s23, .imm, x0⟩, ⟨(.int .i64), .imm, x1⟩] (fun r i => some (r, i)) = bindO (laws_szRing N x0 x1) fun r => some ([⟨(.int .i64), .imm, r⟩], []) := by
  show _ = bindF _ _
  conv => rhs; simp only [laws_szRing, bindF_ifB, bindF_bindO, bindF_pure, bindF_none, bindF_onSum]
  kernel_rfl
theorem laws_szRing.ok (N : Nat) : ConOk Try.prog 4 [.one, .one] (laws_szRing.con N) := ok2 (g := laws_szRing.cfg N) (N := N) (res := [(false, .imm)]) tys_ok (laws_szRing.cons N) mixed Try.func4 (laws_szRing.ls N) rfl (laws_szRing.b N)
theorem laws_szRing.det (N : Nat) : ConDet (laws_szRing.con N) := det2
def laws_toInt64S.sk3 : Skel := ⟨.pv s25 :: (dd 2 (.ov 50 [] :: (.pv (.int .i64) :: (dd 17 [])))), [⟨50, s25, (.own .imm), false, false⟩]⟩
def laws_toInt64S.xs3 : List XS := [⟨.exit 0, [3], ⟨dd 3 (.ov 50 [] :: (dd 18 [])), [⟨50, s25, (.own .imm), false, false⟩]⟩⟩]
def laws_toInt64S.con (N : Nat) : Con := { modes := [.v], ptrs := [false], fn := fn1 s25 .imm (laws_toInt64S N) (fun r => [⟨s25, (.own .imm), r⟩]) (fun r => []) }
def laws_toInt64S.cfg (N : Nat) : Cfg := { ty := tys, keep := [], flt := [], elm := elm0, live := [(3, [0, 3, 4])], ord := [], con := [], loops := [(3, loopCon N laws_toInt64S.sk3 laws_toInt64S.xs3 (fun {R} => laws_toInt64S.l3 (R := R) N))], joins := [] }
theorem laws_toInt64S.cons (N : Nat) : ConsOk Try.prog (laws_toInt64S.cfg N).con := consOk_nil
theorem laws_toInt64S.h3 {R : Type} (N : Nat) (d : laws_toInt64S.sk3.D) (kn : laws_toInt64S.sk3.D → Option R) (kx : XD laws_toInt64S.xs3 → Option R) : roundK (laws_toInt64S.cfg N) N (nthLoop (fnBody Try.f7) 0) laws_toInt64S.sk3 laws_toInt64S.xs3 d kn kx = laws_toInt64S.l3 N d kn kx := by kernel_rfl
theorem laws_toInt64S.i3 (N : Nat) : LoopsOk Try.prog (laws_toInt64S.cfg N) (nthLoop (fnBody Try.f7) 0) := loopsL (l := []) (by kernel_rfl) trivial
theorem laws_toInt64S.o3 (N : Nat) : LoopOk Try.prog (nthLoop (fnBody Try.f7) 0) (loopCon N laws_toInt64S.sk3 laws_toInt64S.xs3 (fun {R} => laws_toInt64S.l3 (R := R) N)) := loop_ok (g := laws_toInt64S.cfg N) tys_ok (laws_toInt64S.cons N) mixed (laws_toInt64S.i3 N) (fun d kn kx => laws_toInt64S.h3 N d kn kx)
theorem laws_toInt64S.ls (N : Nat) : LoopsOk Try.prog (laws_toInt64S.cfg N) (fnBody Try.f7) := loopsL (l := [nthLoop (fnBody Try.f7) 0]) (by kernel_rfl) ⟨loopOne (L0 := loopCon N laws_toInt64S.sk3 laws_toInt64S.xs3 (fun {R} => laws_toInt64S.l3 (R := R) N)) (id := 3) (by kernel_rfl) (by kernel_rfl) (laws_toInt64S.o3 N), trivial⟩
theorem laws_toInt64S.q3 {R R' : Type} {N n : Nat} {d} {k} {g : R → Option R'} : bindF (loopP (laws_toInt64S.l3 N) n d k) g = loopP (laws_toInt64S.l3 N) n d fun e => bindF (k e) g := bindF_loopP (fun d kn kx => by simp only [laws_toInt64S.l3, bindF_ifB, bindF_bindO, bindF_pure, bindF_none, bindF_onSum]) n d k
theorem laws_toInt64S.b (N : Nat) (x0 : den s25) : body (laws_toInt64S.cfg N) N Try.f7 [.one] [.v] [(false, (.own .imm))] [⟨s25, .imm, x0⟩] (fun r i => some (r, i)) = bindO (laws_toInt64S N x0) fun r => some ([⟨s25, (.own .imm), r⟩], []) := by
  show _ = bindF _ _
  conv => rhs; simp only [laws_toInt64S, bindF_ifB, bindF_bindO, bindF_pure, bindF_none, bindF_onSum, laws_toInt64S.q3]
  kernel_rfl
theorem laws_toInt64S.ok (N : Nat) : ConOk Try.prog 7 [.one] (laws_toInt64S.con N) := ok1 (g := laws_toInt64S.cfg N) (N := N) (res := [(false, (.own .imm))]) tys_ok (laws_toInt64S.cons N) mixed Try.func7 (laws_toInt64S.ls N) rfl (laws_toInt64S.b N)
theorem laws_toInt64S.det (N : Nat) : ConDet (laws_toInt64S.con N) := det1
def laws_toInt64SS.sk3 : Skel := ⟨.pv s22 :: (dd 2 (.ov 50 [] :: (.pv (.int .i64) :: (dd 18 [])))), [⟨50, s22, (.own (.own .imm)), false, false⟩]⟩
def laws_toInt64SS.xs3 : List XS := [⟨.exit 0, [3], ⟨dd 3 (.ov 50 [] :: (dd 19 [])), [⟨50, s22, (.own (.own .imm)), false, false⟩]⟩⟩]
def laws_toInt64SS.con (N : Nat) : Con := { modes := [.v], ptrs := [false], fn := fn1 s22 .imm (laws_toInt64SS N) (fun r => [⟨s22, (.own (.own .imm)), r⟩]) (fun r => []) }
def laws_toInt64SS.cfg (N : Nat) : Cfg := { ty := tys, keep := [20], flt := [], elm := elm0, live := [(3, [0, 3, 4])], ord := [], con := [((7, [.one]), laws_toInt64S.con N)], loops := [(3, loopCon N laws_toInt64SS.sk3 laws_toInt64SS.xs3 (fun {R} => laws_toInt64SS.l3 (R := R) N))], joins := [] }
theorem laws_toInt64SS.cons (N : Nat) : ConsOk Try.prog (laws_toInt64SS.cfg N).con := (consOk_cons (hb7) (laws_toInt64S.ok N) (laws_toInt64S.det N) consOk_nil)
theorem laws_toInt64SS.h3 {R : Type} (N : Nat) (d : laws_toInt64SS.sk3.D) (kn : laws_toInt64SS.sk3.D → Option R) (kx : XD laws_toInt64SS.xs3 → Option R) : roundK (laws_toInt64SS.cfg N) N (nthLoop (fnBody Try.f20) 0) laws_toInt64SS.sk3 laws_toInt64SS.xs3 d kn kx = laws_toInt64SS.l3 N d kn kx := by kernel_rfl
theorem laws_toInt64SS.i3 (N : Nat) : LoopsOk Try.prog (laws_toInt64SS.cfg N) (nthLoop (fnBody Try.f20) 0) := loopsL (l := []) (by kernel_rfl) trivial
theorem laws_toInt64SS.o3 (N : Nat) : LoopOk Try.prog (nthLoop (fnBody Try.f20) 0) (loopCon N laws_toInt64SS.sk3 laws_toInt64SS.xs3 (fun {R} => laws_toInt64SS.l3 (R := R) N)) := loop_ok (g := laws_toInt64SS.cfg N) tys_ok (laws_toInt64SS.cons N) mixed (laws_toInt64SS.i3 N) (fun d kn kx => laws_toInt64SS.h3 N d kn kx)
theorem laws_toInt64SS.ls (N : Nat) : LoopsOk Try.prog (laws_toInt64SS.cfg N) (fnBody Try.f20) := loopsL (l := [nthLoop (fnBody Try.f20) 0]) (by kernel_rfl) ⟨loopOne (L0 := loopCon N laws_toInt64SS.sk3 laws_toInt64SS.xs3 (fun {R} => laws_toInt64SS.l3 (R := R) N)) (id := 3) (by kernel_rfl) (by kernel_rfl) (laws_toInt64SS.o3 N), trivial⟩
theorem laws_toInt64SS.q3 {R R' : Type} {N n : Nat} {d} {k} {g : R → Option R'} : bindF (loopP (laws_toInt64SS.l3 N) n d k) g = loopP (laws_toInt64SS.l3 N) n d fun e => bindF (k e) g := bindF_loopP (fun d kn kx => by simp only [laws_toInt64SS.l3, bindF_ifB, bindF_bindO, bindF_pure, bindF_none, bindF_onSum]) n d k
theorem laws_toInt64SS.b (N : Nat) (x0 : den s22) : body (laws_toInt64SS.cfg N) N Try.f20 [.one] [.v] [(false, (.own (.own .imm)))] [⟨s22, .imm, x0⟩] (fun r i => some (r, i)) = bindO (laws_toInt64SS N x0) fun r => some ([⟨s22, (.own (.own .imm)), r⟩], []) := by
  show _ = bindF _ _
  conv => rhs; simp only [laws_toInt64SS, bindF_ifB, bindF_bindO, bindF_pure, bindF_none, bindF_onSum, laws_toInt64SS.q3]
  kernel_rfl
theorem laws_toInt64SS.ok (N : Nat) : ConOk Try.prog 20 [.one] (laws_toInt64SS.con N) := ok1 (g := laws_toInt64SS.cfg N) (N := N) (res := [(false, (.own (.own .imm)))]) tys_ok (laws_toInt64SS.cons N) mixed Try.func20 (laws_toInt64SS.ls N) rfl (laws_toInt64SS.b N)
theorem laws_toInt64SS.det (N : Nat) : ConDet (laws_toInt64SS.con N) := det1
def laws_toRing.con (N : Nat) : Con := { modes := [.v], ptrs := [false], fn := fn1 s23 .imm (laws_toRing N) (fun r => [⟨s23, (.pr (.own (.own .imm)) .imm), r⟩]) (fun r => []) }
def laws_toRing.cfg (N : Nat) : Cfg := { ty := tys, keep := [6], flt := [], elm := elm0, live := [], ord := [], con := [((20, [.one]), laws_toInt64SS.con N)], loops := [], joins := [] }
theorem laws_toRing.cons (N : Nat) : ConsOk Try.prog (laws_toRing.cfg N).con := (consOk_cons (hb20) (laws_toInt64SS.ok N) (laws_toInt64SS.det N) consOk_nil)
theorem laws_toRing.ls (N : Nat) : LoopsOk Try.prog (laws_toRing.cfg N) (fnBody Try.f6) := loopsL (l := []) (by kernel_rfl) trivial
theorem laws_toRing.b (N : Nat) (x0 : den s23) : body (laws_toRing.cfg N) N Try.f6 [.one] [.v] [(false, (.pr (.own (.own .imm)) .imm))] [⟨s23, .imm, x0⟩] (fun r i => some (r, i)) = bindO (laws_toRing N x0) fun r => some ([⟨s23, (.pr (.own (.own .imm)) .imm), r⟩], []) := by
  show _ = bindF _ _
  conv => rhs; simp only [laws_toRing, bindF_ifB, bindF_bindO, bindF_pure, bindF_none, bindF_onSum]
  kernel_rfl
theorem laws_toRing.ok (N : Nat) : ConOk Try.prog 6 [.one] (laws_toRing.con N) := ok1 (g := laws_toRing.cfg N) (N := N) (res := [(false, (.pr (.own (.own .imm)) .imm))]) tys_ok (laws_toRing.cons N) mixed Try.func6 (laws_toRing.ls N) rfl (laws_toRing.b N)
theorem laws_toRing.det (N : Nat) : ConDet (laws_toRing.con N) := det1
def spec_l01Point.con (N : Nat) : Con := { modes := [.v], ptrs := [false], fn := fn1 (.int .i64) .imm (spec_l01Point N) (fun r => [⟨.bool, .imm, r⟩]) (fun r => []) }
def spec_l01Point.cfg (N : Nat) : Cfg := { ty := tys, keep := [], flt := [], elm := elm0, live := [], ord := [], con := [], loops := [], joins := [] }
theorem spec_l01Point.cons (N : Nat) : ConsOk Try.prog (spec_l01Point.cfg N).con := consOk_nil
theorem spec_l01Point.ls (N : Nat) : LoopsOk Try.prog (spec_l01Point.cfg N) (fnBody Try.f32) := loopsL (l := []) (by kernel_rfl) trivial
theorem spec_l01Point.b (N : Nat) (x0 : den (.int .i64)) : body (spec_l01Point.cfg N) N Try.f32 [.one] [.v] [(false, .imm)] [⟨(.int .i64), .imm, x0⟩] (fun r i => some (r, i)) = bindO (spec_l01Point N x0) fun r => some ([⟨.bool, .imm, r⟩], []) := by
  show _ = bindF _ _
  conv => rhs; simp only [spec_l01Point, bindF_ifB, bindF_bindO, bindF_pure, bindF_none, bindF_onSum]
  kernel_rfl
theorem spec_l01Point.ok (N : Nat) : ConOk Try.prog 32 [.one] (spec_l01Point.con N) := ok1 (g := spec_l01Point.cfg N) (N := N) (res := [(false, .imm)]) tys_ok (spec_l01Point.cons N) mixed Try.func32 (spec_l01Point.ls N) rfl (spec_l01Point.b N)
theorem spec_l01Point.det (N : Nat) : ConDet (spec_l01Point.con N) := det1
def spec_PointsRight.sk4 : Skel := ⟨.pv s25 :: (dd 2 (.pv (.int .i64) :: (dd 15 []))), []⟩
def spec_PointsRight.xs4 : List XS := [⟨.exit 0, [], ⟨dd 19 [], []⟩⟩, ⟨.ret, [2], ⟨dd 2 (.pv .bool :: (dd 16 [])), []⟩⟩]
def spec_PointsRight.con (N : Nat) : Con := { modes := [.v], ptrs := [false], fn := fn1 s25 .imm (spec_PointsRight N) (fun r => [⟨.bool, .imm, r⟩]) (fun r => []) }
def spec_PointsRight.cfg (N : Nat) : Cfg := { ty := tys, keep := [17], flt := [], elm := elm0, live := [(4, [0, 3])], ord := [], con := [((32, [.one]), spec_l01Point.con N)], loops := [(4, loopCon N spec_PointsRight.sk4 spec_PointsRight.xs4 (fun {R} => spec_PointsRight.l4 (R := R) N))], joins := [] }
theorem spec_PointsRight.cons (N : Nat) : ConsOk Try.prog (spec_PointsRight.cfg N).con := (consOk_cons (hb32) (spec_l01Point.ok N) (spec_l01Point.det N) consOk_nil)
theorem spec_PointsRight.h4 {R : Type} (N : Nat) (d : spec_PointsRight.sk4.D) (kn : spec_PointsRight.sk4.D → Option R) (kx : XD spec_PointsRight.xs4 → Option R) : roundK (spec_PointsRight.cfg N) N (nthLoop (fnBody Try.f16) 0) spec_PointsRight.sk4 spec_PointsRight.xs4 d kn kx = spec_PointsRight.l4 N d kn kx := by kernel_rfl
theorem spec_PointsRight.i4 (N : Nat) : LoopsOk Try.prog (spec_PointsRight.cfg N) (nthLoop (fnBody Try.f16) 0) := loopsL (l := []) (by kernel_rfl) trivial
theorem spec_PointsRight.o4 (N : Nat) : LoopOk Try.prog (nthLoop (fnBody Try.f16) 0) (loopCon N spec_PointsRight.sk4 spec_PointsRight.xs4 (fun {R} => spec_PointsRight.l4 (R := R) N)) := loop_ok (g := spec_PointsRight.cfg N) tys_ok (spec_PointsRight.cons N) mixed (spec_PointsRight.i4 N) (fun d kn kx => spec_PointsRight.h4 N d kn kx)
theorem spec_PointsRight.ls (N : Nat) : LoopsOk Try.prog (spec_PointsRight.cfg N) (fnBody Try.f16) := loopsL (l := [nthLoop (fnBody Try.f16) 0]) (by kernel_rfl) ⟨loopOne (L0 := loopCon N spec_PointsRight.sk4 spec_PointsRight.xs4 (fun {R} => spec_PointsRight.l4 (R := R) N)) (id := 4) (by kernel_rfl) (by kernel_rfl) (spec_PointsRight.o4 N), trivial⟩
theorem spec_PointsRight.q4 {R R' : Type} {N n : Nat} {d} {k} {g : R → Option R'} : bindF (loopP (spec_PointsRight.l4 N) n d k) g = loopP (spec_PointsRight.l4 N) n d fun e => bindF (k e) g := bindF_loopP (fun d kn kx => by simp only [spec_PointsRight.l4, bindF_ifB, bindF_bindO, bindF_pure, bindF_none, bindF_onSum]) n d k
theorem spec_PointsRight.b (N : Nat) (x0 : den s25) : body (spec_PointsRight.cfg N) N Try.f16 [.one] [.v] [(false, .imm)] [⟨s25, .imm, x0⟩] (fun r i => some (r, i)) = bindO (spec_PointsRight N x0) fun r => some ([⟨.bool, .imm, r⟩], []) := by
  show _ = bindF _ _
  conv => rhs; simp only [spec_PointsRight, bindF_ifB, bindF_bindO, bindF_pure, bindF_none, bindF_onSum, spec_PointsRight.q4]
  kernel_rfl
theorem spec_PointsRight.ok (N : Nat) : ConOk Try.prog 16 [.one] (spec_PointsRight.con N) := ok1 (g := spec_PointsRight.cfg N) (N := N) (res := [(false, .imm)]) tys_ok (spec_PointsRight.cons N) mixed Try.func16 (spec_PointsRight.ls N) rfl (spec_PointsRight.b N)
theorem spec_PointsRight.det (N : Nat) : ConDet (spec_PointsRight.con N) := det1
def spec_l04Items.sk4 : Skel := ⟨.pv s22 :: (dd 4 (.pv (.int .i64) :: (dd 24 []))), []⟩
def spec_l04Items.xs4 : List XS := [⟨.exit 0, [], ⟨dd 30 [], []⟩⟩, ⟨.ret, [4], ⟨dd 4 (.pv .bool :: (dd 25 [])), []⟩⟩]
def spec_l04Items.con (N : Nat) : Con := { modes := [.v, .v], ptrs := [false], fn := fn2 s22 .imm (.int .i64) .imm (spec_l04Items N) (fun r => [⟨.bool, .imm, r⟩]) (fun r => []) }
def spec_l04Items.cfg (N : Nat) : Cfg := { ty := tys, keep := [27], flt := [], elm := elm0, live := [(4, [0, 5, 23, 24, 25, 26, 27, 28])], ord := [], con := [((16, [.one]), spec_PointsRight.con N)], loops := [(4, loopCon N spec_l04Items.sk4 spec_l04Items.xs4 (fun {R} => spec_l04Items.l4 (R := R) N))], joins := [] }
theorem spec_l04Items.cons (N : Nat) : ConsOk Try.prog (spec_l04Items.cfg N).con := (consOk_cons (hb16) (spec_PointsRight.ok N) (spec_PointsRight.det N) consOk_nil)
theorem spec_l04Items.h4 {R : Type} (N : Nat) (d : spec_l04Items.sk4.D) (kn : spec_l04Items.sk4.D → Option R) (kx : XD spec_l04Items.xs4 → Option R) : roundK (spec_l04Items.cfg N) N (nthLoop (fnBody Try.f31) 0) spec_l04Items.sk4 spec_l04Items.xs4 d kn kx = spec_l04Items.l4 N d kn kx := by kernel_rfl
theorem spec_l04Items.i4 (N : Nat) : LoopsOk Try.prog (spec_l04Items.cfg N) (nthLoop (fnBody Try.f31) 0) := loopsL (l := []) (by kernel_rfl) trivial
theorem spec_l04Items.o4 (N : Nat) : LoopOk Try.prog (nthLoop (fnBody Try.f31) 0) (loopCon N spec_l04Items.sk4 spec_l04Items.xs4 (fun {R} => spec_l04Items.l4 (R := R) N)) := loop_ok (g := spec_l04Items.cfg N) tys_ok (spec_l04Items.cons N) mixed (spec_l04Items.i4 N) (fun d kn kx => spec_l04Items.h4 N d kn kx)
theorem spec_l04Items.ls (N : Nat) : LoopsOk Try.prog (spec_l04Items.cfg N) (fnBody Try.f31) := loopsL (l := [nthLoop (fnBody Try.f31) 0]) (by kernel_rfl) ⟨loopOne (L0 := loopCon N spec_l04Items.sk4 spec_l04Items.xs4 (fun {R} => spec_l04Items.l4 (R := R) N)) (id := 4) (by kernel_rfl) (by kernel_rfl) (spec_l04Items.o4 N), trivial⟩
theorem spec_l04Items.q4 {R R' : Type} {N n : Nat} {d} {k} {g : R → Option R'} : bindF (loopP (spec_l04Items.l4 N) n d k) g = loopP (spec_l04Items.l4 N) n d fun e => bindF (k e) g := bindF_loopP (fun d kn kx => by simp only [spec_l04Items.l4, bindF_ifB, bindF_bindO, bindF_pure, bindF_none, bindF_onSum]) n d k
theorem spec_l04Items.b (N : Nat) (x0 : den s22) (x1 : den (.int .i64)) : body (spec_l04Items.cfg N) N Try.f31 [.one, .one] [.v, .v] [(false, .imm)] [⟨s22, .imm, x0⟩, ⟨(.int .i64), .imm, x1⟩] (fun r i => some (r, i)) = bindO (spec_l04Items N x0 x1) fun r => some ([⟨.bool, .imm, r⟩], []) := by
  show _ = bindF _ _
  conv => rhs; simp only [spec_l04Items, bindF_ifB, bindF_bindO, bindF_pure, bindF_none, bindF_onSum, spec_l04Items.q4]
  kernel_rfl
theorem spec_l04Items.ok (N : Nat) : ConOk Try.prog 31 [.one, .one] (spec_l04Items.con N) := ok2 (g := spec_l04Items.cfg N) (N := N) (res := [(false, .imm)]) tys_ok (spec_l04Items.cons N) mixed Try.func31 (spec_l04Items.ls N) rfl (spec_l04Items.b N)
theorem spec_l04Items.det (N : Nat) : ConDet (spec_l04Items.con N) := det2
def spec_RingRight.con (N : Nat) : Con := { modes := [.v], ptrs := [false], fn := fn1 s23 .imm (spec_RingRight N) (fun r => [⟨.bool, .imm, r⟩]) (fun r => []) }
def spec_RingRight.cfg (N : Nat) : Cfg := { ty := tys, keep := [5], flt := [], elm := elm0, live := [], ord := [], con := [((31, [.one, .one]), spec_l04Items.con N)], loops := [], joins := [] }
theorem spec_RingRight.cons (N : Nat) : ConsOk Try.prog (spec_RingRight.cfg N).con := (consOk_cons (hb31) (spec_l04Items.ok N) (spec_l04Items.det N) consOk_nil)
theorem spec_RingRight.ls (N : Nat) : LoopsOk Try.prog (spec_RingRight.cfg N) (fnBody Try.f15) := loopsL (l := []) (by kernel_rfl) trivial
theorem spec_RingRight.b (N : Nat) (x0 : den s23) : body (spec_RingRight.cfg N) N Try.f15 [.one] [.v] [(false, .imm)] [⟨s23, .imm, x0⟩] (fun r i => some (r, i)) = bindO (spec_RingRight N x0) fun r => some ([⟨.bool, .imm, r⟩], []) := by
  show _ = bindF _ _
  conv => rhs; simp only [spec_RingRight, bindF_ifB, bindF_bindO, bindF_pure, bindF_none, bindF_onSum]
  kernel_rfl
theorem spec_RingRight.ok (N : Nat) : ConOk Try.prog 15 [.one] (spec_RingRight.con N) := ok1 (g := spec_RingRight.cfg N) (N := N) (res := [(false, .imm)]) tys_ok (spec_RingRight.cons N) mixed Try.func15 (spec_RingRight.ls N) rfl (spec_RingRight.b N)
theorem spec_RingRight.det (N : Nat) : ConDet (spec_RingRight.con N) := det1
def spec_l01Copy.con (N : Nat) : Con := { modes := [.v], ptrs := [false], fn := fn1 s25 .imm (spec_l01Copy N) (fun r => [⟨s25, (.own .imm), r⟩]) (fun r => []) }
def spec_l01Copy.cfg (N : Nat) : Cfg := { ty := tys, keep := [], flt := [], elm := elm0, live := [], ord := [], con := [], loops := [], joins := [] }
theorem spec_l01Copy.cons (N : Nat) : ConsOk Try.prog (spec_l01Copy.cfg N).con := consOk_nil
theorem spec_l01Copy.ls (N : Nat) : LoopsOk Try.prog (spec_l01Copy.cfg N) (fnBody Try.f19) := loopsL (l := []) (by kernel_rfl) trivial
theorem spec_l01Copy.b (N : Nat) (x0 : den s25) : body (spec_l01Copy.cfg N) N Try.f19 [.one] [.v] [(false, (.own .imm))] [⟨s25, .imm, x0⟩] (fun r i => some (r, i)) = bindO (spec_l01Copy N x0) fun r => some ([⟨s25, (.own .imm), r⟩], []) := by
  show _ = bindF _ _
  conv => rhs; simp only [spec_l01Copy, bindF_ifB, bindF_bindO, bindF_pure, bindF_none, bindF_onSum]
  kernel_rfl
theorem spec_l01Copy.ok (N : Nat) : ConOk Try.prog 19 [.one] (spec_l01Copy.con N) := ok1 (g := spec_l01Copy.cfg N) (N := N) (res := [(false, (.own .imm))]) tys_ok (spec_l01Copy.cons N) mixed Try.func19 (spec_l01Copy.ls N) rfl (spec_l01Copy.b N)
theorem spec_l01Copy.det (N : Nat) : ConDet (spec_l01Copy.con N) := det1
def spec_l04CopyAll.sk3 : Skel := ⟨.pv s22 :: (dd 2 (.ov 50 [] :: (.pv (.int .i64) :: (dd 16 [])))), [⟨50, s22, (.own (.own .imm)), false, false⟩]⟩
def spec_l04CopyAll.xs3 : List XS := [⟨.exit 0, [3], ⟨dd 3 (.ov 50 [] :: (dd 17 [])), [⟨50, s22, (.own (.own .imm)), false, false⟩]⟩⟩]
def spec_l04CopyAll.con (N : Nat) : Con := { modes := [.v], ptrs := [false], fn := fn1 s22 .imm (spec_l04CopyAll N) (fun r => [⟨s22, (.own (.own .imm)), r⟩]) (fun r => []) }
def spec_l04CopyAll.cfg (N : Nat) : Cfg := { ty := tys, keep := [17], flt := [], elm := elm0, live := [(3, [0, 3, 4])], ord := [], con := [((19, [.one]), spec_l01Copy.con N)], loops := [(3, loopCon N spec_l04CopyAll.sk3 spec_l04CopyAll.xs3 (fun {R} => spec_l04CopyAll.l3 (R := R) N))], joins := [] }
theorem spec_l04CopyAll.cons (N : Nat) : ConsOk Try.prog (spec_l04CopyAll.cfg N).con := (consOk_cons (hb19) (spec_l01Copy.ok N) (spec_l01Copy.det N) consOk_nil)
theorem spec_l04CopyAll.h3 {R : Type} (N : Nat) (d : spec_l04CopyAll.sk3.D) (kn : spec_l04CopyAll.sk3.D → Option R) (kx : XD spec_l04CopyAll.xs3 → Option R) : roundK (spec_l04CopyAll.cfg N) N (nthLoop (fnBody Try.f33) 0) spec_l04CopyAll.sk3 spec_l04CopyAll.xs3 d kn kx = spec_l04CopyAll.l3 N d kn kx := by kernel_rfl
theorem spec_l04CopyAll.i3 (N : Nat) : LoopsOk Try.prog (spec_l04CopyAll.cfg N) (nthLoop (fnBody Try.f33) 0) := loopsL (l := []) (by kernel_rfl) trivial
theorem spec_l04CopyAll.o3 (N : Nat) : LoopOk Try.prog (nthLoop (fnBody Try.f33) 0) (loopCon N spec_l04CopyAll.sk3 spec_l04CopyAll.xs3 (fun {R} => spec_l04CopyAll.l3 (R := R) N)) := loop_ok (g := spec_l04CopyAll.cfg N) tys_ok (spec_l04CopyAll.cons N) mixed (spec_l04CopyAll.i3 N) (fun d kn kx => spec_l04CopyAll.h3 N d kn kx)
theorem spec_l04CopyAll.ls (N : Nat) : LoopsOk Try.prog (spec_l04CopyAll.cfg N) (fnBody Try.f33) := loopsL (l := [nthLoop (fnBody Try.f33) 0]) (by kernel_rfl) ⟨loopOne (L0 := loopCon N spec_l04CopyAll.sk3 spec_l04CopyAll.xs3 (fun {R} => spec_l04CopyAll.l3 (R := R) N)) (id := 3) (by kernel_rfl) (by kernel_rfl) (spec_l04CopyAll.o3 N), trivial⟩
theorem spec_l04CopyAll.q3 {R R' : Type} {N n : Nat} {d} {k} {g : R → Option R'} : bindF (loopP (spec_l04CopyAll.l3 N) n d k) g = loopP (spec_l04CopyAll.l3 N) n d fun e => bindF (k e) g := bindF_loopP (fun d kn kx => by simp only [spec_l04CopyAll.l3, bindF_ifB, bindF_bindO, bindF_pure, bindF_none, bindF_onSum]) n d k
theorem spec_l04CopyAll.b (N : Nat) (x0 : den s22) : body (spec_l04CopyAll.cfg N) N Try.f33 [.one] [.v] [(false, (.own (.own .imm)))] [⟨s22, .imm, x0⟩] (fun r i => some (r, i)) = bindO (spec_l04CopyAll N x0) fun r => some ([⟨s22, (.own (.own .imm)), r⟩], []) := by
  show _ = bindF _ _
  conv => rhs; simp only [spec_l04CopyAll, bindF_ifB, bindF_bindO, bindF_pure, bindF_none, bindF_onSum, spec_l04CopyAll.q3]
  kernel_rfl
theorem spec_l04CopyAll.ok (N : Nat) : ConOk Try.prog 33 [.one] (spec_l04CopyAll.con N) := ok1 (g := spec_l04CopyAll.cfg N) (N := N) (res := [(false, (.own (.own .imm)))]) tys_ok (spec_l04CopyAll.cons N) mixed Try.func33 (spec_l04CopyAll.ls N) rfl (spec_l04CopyAll.b N)
theorem spec_l04CopyAll.det (N : Nat) : ConDet (spec_l04CopyAll.con N) := det1
end Go.AE.F
end
