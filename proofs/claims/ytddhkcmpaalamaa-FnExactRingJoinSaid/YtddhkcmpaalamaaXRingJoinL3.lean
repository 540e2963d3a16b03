/- The printed functions are what the program comes to: contracts. -/
import Derived.Test.YtddhkcmpaalamaaXRingJoinL2
noncomputable section
namespace Go.AE.F
open Go.AE Go.Proofs
set_option maxRecDepth 100000
def impl_RingJoin.con (N : Nat) : Con := { modes := [.v, .v, .v], ptrs := [false], fn := fn3 s23 .imm s25 .imm .bool .imm (impl_RingJoin N) (fun r => [⟨s23, (.pr (.own (.own .imm)) .imm), r⟩]) (fun r => []) }
def impl_RingJoin.cfg (N : Nat) : Cfg := { ty := tys, keep := [11, 15, 19, 23, 42, 44, 55, 65], flt := [], elm := elm0, live := [], ord := [(10, [0, 1, 2, 3, 4, 5, 6, 7, 8, 9, 10]), (11, [0, 1, 2, 3, 4, 5, 6, 7, 8, 9, 10])], con := [((21, [.one]), impl_isMany.con N), ((22, [.one]), impl_RingRight.con N), ((23, [.one]), impl_isItem.con N), ((24, [.one]), impl_ownRing.con N), ((25, [.one, .one]), impl_push.con N), ((26, [.one]), slices_Concat_Sint64_int64.con N)], loops := [], joins := [] }
theorem impl_RingJoin.cons (N : Nat) : ConsOk Try.prog (impl_RingJoin.cfg N).con := (consOk_cons (hb21) (impl_isMany.ok N) (impl_isMany.det N) (consOk_cons (hb22) (impl_RingRight.ok N) (impl_RingRight.det N) (consOk_cons (hb23) (impl_isItem.ok N) (impl_isItem.det N) (consOk_cons (hb24) (impl_ownRing.ok N) (impl_ownRing.det N) (consOk_cons (hb25) (impl_push.ok N) (impl_push.det N) (consOk_cons (hb26) (slices_Concat_Sint64_int64.ok N) (slices_Concat_Sint64_int64.det N) consOk_nil))))))
theorem impl_RingJoin.ls (N : Nat) : LoopsOk Try.prog (impl_RingJoin.cfg N) (fnBody Try.f8) := loopsL (l := []) (by kernel_rfl) trivial
theorem impl_RingJoin.b (N : Nat) (x0 : den s23) (x1 : den s25) (x2 : den .bool) : body (impl_RingJoin.cfg N) N Try.f8 [.one, .one, .one] [.v, .v, .v] [(false, (.pr (.own (.own .imm)) .imm))] [⟨s23, .imm, x0⟩, ⟨s25, .imm, x1⟩, ⟨.bool, .imm, x2⟩] (fun r i => some (r, i)) = bindO (impl_RingJoin N x0 x1 x2) fun r => some ([⟨s23, (.pr (.own (.own .imm)) .imm), r⟩], []) := by
  show _ = bindF _ _
  conv => rhs; simp only [impl_RingJoin, bindF_ifB, bindF_bindO, bindF_pure, bindF_none, bindF_onSum]
  kernel_rfl
theorem impl_RingJoin.ok (N : Nat) : ConOk Try.prog 8 [.one, .one, .one] (impl_RingJoin.con N) := ok3 (g := impl_RingJoin.cfg N) (N := N) (res := [(false, (.pr (.own (.own .imm)) .imm))]) tys_ok (impl_RingJoin.cons N) mixed Try.func8 (impl_RingJoin.ls N) rfl (impl_RingJoin.b N)
theorem impl_RingJoin.det (N : Nat) : ConDet (impl_RingJoin.con N) := det3
def laws_eqInt64S.sk4 : Skel := ⟨.pv s25 :: (.pv s25 :: (dd 3 (.pv (.int .i64) :: (dd 20 [])))), []⟩
def laws_eqInt64S.xs4 : List XS := [⟨.exit 0, [], ⟨dd 26 [], []⟩⟩, ⟨.ret, [4], ⟨dd 4 (.pv .bool :: (dd 21 [])), []⟩⟩]
def laws_eqInt64S.con (N : Nat) : Con := { modes := [.v, .v], ptrs := [false], fn := fn2 s25 .imm s25 .imm (laws_eqInt64S N) (fun r => [⟨.bool, .imm, r⟩]) (fun r => []) }
def laws_eqInt64S.cfg (N : Nat) : Cfg := { ty := tys, keep := [], flt := [], elm := elm0, live := [(4, [0, 1, 5])], ord := [(6, [0, 1, 2, 3, 4, 5, 6, 7, 8])], con := [], loops := [(4, loopCon N laws_eqInt64S.sk4 laws_eqInt64S.xs4 (fun {R} => laws_eqInt64S.l4 (R := R) N))], joins := [] }
theorem laws_eqInt64S.cons (N : Nat) : ConsOk Try.prog (laws_eqInt64S.cfg N).con := consOk_nil
theorem laws_eqInt64S.h4 {R : Type} (N : Nat) (d : laws_eqInt64S.sk4.D) (kn : laws_eqInt64S.sk4.D → Option R) (kx : XD laws_eqInt64S.xs4 → Option R) : roundK (laws_eqInt64S.cfg N) N (nthLoop (fnBody Try.f10) 0) laws_eqInt64S.sk4 laws_eqInt64S.xs4 d kn kx = laws_eqInt64S.l4 N d kn kx := by kernel_rfl
theorem laws_eqInt64S.i4 (N : Nat) : LoopsOk Try.prog (laws_eqInt64S.cfg N) (nthLoop (fnBody Try.f10) 0) := loopsL (l := []) (by kernel_rfl) trivial
theorem laws_eqInt64S.o4 (N : Nat) : LoopOk Try.prog (nthLoop (fnBody Try.f10) 0) (loopCon N laws_eqInt64S.sk4 laws_eqInt64S.xs4 (fun {R} => laws_eqInt64S.l4 (R := R) N)) := loop_ok (g := laws_eqInt64S.cfg N) tys_ok (laws_eqInt64S.cons N) mixed (laws_eqInt64S.i4 N) (fun d kn kx => laws_eqInt64S.h4 N d kn kx)
theorem laws_eqInt64S.ls (N : Nat) : LoopsOk Try.prog (laws_eqInt64S.cfg N) (fnBody Try.f10) := loopsL (l := [nthLoop (fnBody Try.f10) 0]) (by kernel_rfl) ⟨loopOne (L0 := loopCon N laws_eqInt64S.sk4 laws_eqInt64S.xs4 (fun {R} => laws_eqInt64S.l4 (R := R) N)) (id := 4) (by kernel_rfl) (by kernel_rfl) (laws_eqInt64S.o4 N), trivial⟩
theorem laws_eqInt64S.q4 {R R' : Type} {N n : Nat} {d} {k} {g : R → Option R'} : bindF (loopP (laws_eqInt64S.l4 N) n d k) g = loopP (laws_eqInt64S.l4 N) n d fun e => bindF (k e) g := bindF_loopP (fun d kn kx => by simp only [laws_eqInt64S.l4, bindF_ifB, bindF_bindO, bindF_pure, bindF_none, bindF_onSum]) n d k
theorem laws_eqInt64S.b (N : Nat) (x0 : den s25) (x1 : den s25) : body (laws_eqInt64S.cfg N) N Try.f10 [.one, .one] [.v, .v] [(false, .imm)] [⟨s25, .imm, x0⟩, ⟨s25, .imm, x1⟩] (fun r i => some (r, i)) = bindO (laws_eqInt64S N x0 x1) fun r => some ([⟨.bool, .imm, r⟩], []) := by
  show _ = bindF _ _
  conv => rhs; simp only [laws_eqInt64S, bindF_ifB, bindF_bindO, bindF_pure, bindF_none, bindF_onSum, laws_eqInt64S.q4]
  kernel_rfl
theorem laws_eqInt64S.ok (N : Nat) : ConOk Try.prog 10 [.one, .one] (laws_eqInt64S.con N) := ok2 (g := laws_eqInt64S.cfg N) (N := N) (res := [(false, .imm)]) tys_ok (laws_eqInt64S.cons N) mixed Try.func10 (laws_eqInt64S.ls N) rfl (laws_eqInt64S.b N)
theorem laws_eqInt64S.det (N : Nat) : ConDet (laws_eqInt64S.con N) := det2
def laws_eqInt64SS.sk4 : Skel := ⟨.pv s22 :: (.pv s22 :: (dd 3 (.pv (.int .i64) :: (dd 21 [])))), []⟩
def laws_eqInt64SS.xs4 : List XS := [⟨.exit 0, [], ⟨dd 27 [], []⟩⟩, ⟨.ret, [4], ⟨dd 4 (.pv .bool :: (dd 22 [])), []⟩⟩]
def laws_eqInt64SS.con (N : Nat) : Con := { modes := [.v, .v], ptrs := [false], fn := fn2 s22 .imm s22 .imm (laws_eqInt64SS N) (fun r => [⟨.bool, .imm, r⟩]) (fun r => []) }
def laws_eqInt64SS.cfg (N : Nat) : Cfg := { ty := tys, keep := [25], flt := [], elm := elm0, live := [(4, [0, 1, 5])], ord := [(6, [0, 1, 2, 3, 4, 5, 6, 7, 8, 9])], con := [((10, [.one, .one]), laws_eqInt64S.con N)], loops := [(4, loopCon N laws_eqInt64SS.sk4 laws_eqInt64SS.xs4 (fun {R} => laws_eqInt64SS.l4 (R := R) N))], joins := [] }
theorem laws_eqInt64SS.cons (N : Nat) : ConsOk Try.prog (laws_eqInt64SS.cfg N).con := (consOk_cons (hb10) (laws_eqInt64S.ok N) (laws_eqInt64S.det N) consOk_nil)
theorem laws_eqInt64SS.h4 {R : Type} (N : Nat) (d : laws_eqInt64SS.sk4.D) (kn : laws_eqInt64SS.sk4.D → Option R) (kx : XD laws_eqInt64SS.xs4 → Option R) : roundK (laws_eqInt64SS.cfg N) N (nthLoop (fnBody Try.f27) 0) laws_eqInt64SS.sk4 laws_eqInt64SS.xs4 d kn kx = laws_eqInt64SS.l4 N d kn kx := by kernel_rfl
theorem laws_eqInt64SS.i4 (N : Nat) : LoopsOk Try.prog (laws_eqInt64SS.cfg N) (nthLoop (fnBody Try.f27) 0) := loopsL (l := []) (by kernel_rfl) trivial
theorem laws_eqInt64SS.o4 (N : Nat) : LoopOk Try.prog (nthLoop (fnBody Try.f27) 0) (loopCon N laws_eqInt64SS.sk4 laws_eqInt64SS.xs4 (fun {R} => laws_eqInt64SS.l4 (R := R) N)) := loop_ok (g := laws_eqInt64SS.cfg N) tys_ok (laws_eqInt64SS.cons N) mixed (laws_eqInt64SS.i4 N) (fun d kn kx => laws_eqInt64SS.h4 N d kn kx)
theorem laws_eqInt64SS.ls (N : Nat) : LoopsOk Try.prog (laws_eqInt64SS.cfg N) (fnBody Try.f27) := loopsL (l := [nthLoop (fnBody Try.f27) 0]) (by kernel_rfl) ⟨loopOne (L0 := loopCon N laws_eqInt64SS.sk4 laws_eqInt64SS.xs4 (fun {R} => laws_eqInt64SS.l4 (R := R) N)) (id := 4) (by kernel_rfl) (by kernel_rfl) (laws_eqInt64SS.o4 N), trivial⟩
theorem laws_eqInt64SS.q4 {R R' : Type} {N n : Nat} {d} {k} {g : R → Option R'} : bindF (loopP (laws_eqInt64SS.l4 N) n d k) g = loopP (laws_eqInt64SS.l4 N) n d fun e => bindF (k e) g := bindF_loopP (fun d kn kx => by simp only [laws_eqInt64SS.l4, bindF_ifB, bindF_bindO, bindF_pure, bindF_none, bindF_onSum]) n d k
theorem laws_eqInt64SS.b (N : Nat) (x0 : den s22) (x1 : den s22) : body (laws_eqInt64SS.cfg N) N Try.f27 [.one, .one] [.v, .v] [(false, .imm)] [⟨s22, .imm, x0⟩, ⟨s22, .imm, x1⟩] (fun r i => some (r, i)) = bindO (laws_eqInt64SS N x0 x1) fun r => some ([⟨.bool, .imm, r⟩], []) := by
  show _ = bindF _ _
  conv => rhs; simp only [laws_eqInt64SS, bindF_ifB, bindF_bindO, bindF_pure, bindF_none, bindF_onSum, laws_eqInt64SS.q4]
  kernel_rfl
theorem laws_eqInt64SS.ok (N : Nat) : ConOk Try.prog 27 [.one, .one] (laws_eqInt64SS.con N) := ok2 (g := laws_eqInt64SS.cfg N) (N := N) (res := [(false, .imm)]) tys_ok (laws_eqInt64SS.cons N) mixed Try.func27 (laws_eqInt64SS.ls N) rfl (laws_eqInt64SS.b N)
theorem laws_eqInt64SS.det (N : Nat) : ConDet (laws_eqInt64SS.con N) := det2
def laws_eqRing.con (N : Nat) : Con := { modes := [.v, .v], ptrs := [false], fn := fn2 s23 .imm s23 .imm (laws_eqRing N) (fun r => [⟨.bool, .imm, r⟩]) (fun r => []) }
def laws_eqRing.cfg (N : Nat) : Cfg := { ty := tys, keep := [9], flt := [], elm := elm0, live := [], ord := [], con := [((27, [.one, .one]), laws_eqInt64SS.con N)], loops := [], joins := [] }
theorem laws_eqRing.cons (N : Nat) : ConsOk Try.prog (laws_eqRing.cfg N).con := (consOk_cons (hb27) (laws_eqInt64SS.ok N) (laws_eqInt64SS.det N) consOk_nil)
theorem laws_eqRing.ls (N : Nat) : LoopsOk Try.prog (laws_eqRing.cfg N) (fnBody Try.f9) := loopsL (l := []) (by kernel_rfl) trivial
theorem laws_eqRing.b (N : Nat) (x0 : den s23) (x1 : den s23) : body (laws_eqRing.cfg N) N Try.f9 [.one, .one] [.v, .v] [(false, .imm)] [⟨s23, .imm, x0⟩, ⟨s23, .imm, x1⟩] (fun r i => some (r, i)) = bindO (laws_eqRing N x0 x1) fun r => some ([⟨.bool, .imm, r⟩], []) := by
  show _ = bindF _ _
  conv => rhs; simp only [laws_eqRing, bindF_ifB, bindF_bindO, bindF_pure, bindF_none, bindF_onSum]
  kernel_rfl
theorem laws_eqRing.ok (N : Nat) : ConOk Try.prog 9 [.one, .one] (laws_eqRing.con N) := ok2 (g := laws_eqRing.cfg N) (N := N) (res := [(false, .imm)]) tys_ok (laws_eqRing.cons N) mixed Try.func9 (laws_eqRing.ls N) rfl (laws_eqRing.b N)
theorem laws_eqRing.det (N : Nat) : ConDet (laws_eqRing.con N) := det2
def laws_markInt64S.sk2 : Skel := ⟨.ov 0 [] :: (.pv (.int .i64) :: (dd 3 (.pv (.int .i64) :: (dd 13 [])))), [⟨0, s25, (.own .imm), false, true⟩]⟩
def laws_markInt64S.xs2 : List XS := [⟨.exit 0, [1], ⟨dd 1 (.pv (.int .i64) :: (dd 17 [])), [⟨0, s25, (.own .imm), false, true⟩]⟩⟩]
def laws_markInt64S.con (N : Nat) : Con := { modes := [.iov, .v], ptrs := [false], fn := fn2 s25 (.own .imm) (.int .i64) .imm (laws_markInt64S N) (fun r => [⟨(.int .i64), .imm, r.1⟩]) (fun r => [⟨s25, (.own .imm), r.2⟩]) }
def laws_markInt64S.cfg (N : Nat) : Cfg := { ty := tys, keep := [], flt := [], elm := elm0, live := [(2, [0, 1, 5])], ord := [], con := [], loops := [(2, loopCon N laws_markInt64S.sk2 laws_markInt64S.xs2 (fun {R} => laws_markInt64S.l2 (R := R) N))], joins := [] }
theorem laws_markInt64S.cons (N : Nat) : ConsOk Try.prog (laws_markInt64S.cfg N).con := consOk_nil
theorem laws_markInt64S.h2 {R : Type} (N : Nat) (d : laws_markInt64S.sk2.D) (kn : laws_markInt64S.sk2.D → Option R) (kx : XD laws_markInt64S.xs2 → Option R) : roundK (laws_markInt64S.cfg N) N (nthLoop (fnBody Try.f12) 0) laws_markInt64S.sk2 laws_markInt64S.xs2 d kn kx = laws_markInt64S.l2 N d kn kx := by kernel_rfl
theorem laws_markInt64S.i2 (N : Nat) : LoopsOk Try.prog (laws_markInt64S.cfg N) (nthLoop (fnBody Try.f12) 0) := loopsL (l := []) (by kernel_rfl) trivial
theorem laws_markInt64S.o2 (N : Nat) : LoopOk Try.prog (nthLoop (fnBody Try.f12) 0) (loopCon N laws_markInt64S.sk2 laws_markInt64S.xs2 (fun {R} => laws_markInt64S.l2 (R := R) N)) := loop_ok (g := laws_markInt64S.cfg N) tys_ok (laws_markInt64S.cons N) mixed (laws_markInt64S.i2 N) (fun d kn kx => laws_markInt64S.h2 N d kn kx)
theorem laws_markInt64S.ls (N : Nat) : LoopsOk Try.prog (laws_markInt64S.cfg N) (fnBody Try.f12) := loopsL (l := [nthLoop (fnBody Try.f12) 0]) (by kernel_rfl) ⟨loopOne (L0 := loopCon N laws_markInt64S.sk2 laws_markInt64S.xs2 (fun {R} => laws_markInt64S.l2 (R := R) N)) (id := 2) (by kernel_rfl) (by kernel_rfl) (laws_markInt64S.o2 N), trivial⟩
theorem laws_markInt64S.q2 {R R' : Type} {N n : Nat} {d} {k} {g : R → Option R'} : bindF (loopP (laws_markInt64S.l2 N) n d k) g = loopP (laws_markInt64S.l2 N) n d fun e => bindF (k e) g := bindF_loopP (fun d kn kx => by simp only [laws_markInt64S.l2, bindF_ifB, bindF_bindO, bindF_pure, bindF_none, bindF_onSum]) n d k
theorem laws_markInt64S.b (N : Nat) (x0 : den s25) (x1 : den (.int .i64)) : body (laws_markInt64S.cfg N) N Try.f12 [.one, .one] [.iov, .v] [(false, .imm)] [⟨s25, (.own .imm), x0⟩, ⟨(.int .i64), .imm, x1⟩] (fun r i => some (r, i)) = bindO (laws_markInt64S N x0 x1) fun r => some ([⟨(.int .i64), .imm, r.1⟩], [⟨s25, (.own .imm), r.2⟩]) := by
  show _ = bindF _ _
  conv => rhs; simp only [laws_markInt64S, bindF_ifB, bindF_bindO, bindF_pure, bindF_none, bindF_onSum, laws_markInt64S.q2]
  kernel_rfl
theorem laws_markInt64S.ok (N : Nat) : ConOk Try.prog 12 [.one, .one] (laws_markInt64S.con N) := ok2 (g := laws_markInt64S.cfg N) (N := N) (res := [(false, .imm)]) tys_ok (laws_markInt64S.cons N) mixed Try.func12 (laws_markInt64S.ls N) rfl (laws_markInt64S.b N)
theorem laws_markInt64S.det (N : Nat) : ConDet (laws_markInt64S.con N) := det2
def laws_markInt64SS.sk2 : Skel := ⟨.ov 0 [] :: (.pv (.int .i64) :: (dd 3 (.pv (.int .i64) :: (dd 13 [])))), [⟨0, s22, (.own (.own .imm)), false, true⟩]⟩
def laws_markInt64SS.xs2 : List XS := [⟨.exit 0, [1], ⟨dd 1 (.pv (.int .i64) :: (dd 17 [])), [⟨0, s22, (.own (.own .imm)), false, true⟩]⟩⟩]
def laws_markInt64SS.con (N : Nat) : Con := { modes := [.iov, .v], ptrs := [false], fn := fn2 s22 (.own (.own .imm)) (.int .i64) .imm (laws_markInt64SS N) (fun r => [⟨(.int .i64), .imm, r.1⟩]) (fun r => [⟨s22, (.own (.own .imm)), r.2⟩]) }
def laws_markInt64SS.cfg (N : Nat) : Cfg := { ty := tys, keep := [17], flt := [], elm := elm0, live := [(2, [0, 1, 5])], ord := [], con := [((12, [.one, .one]), laws_markInt64S.con N)], loops := [(2, loopCon N laws_markInt64SS.sk2 laws_markInt64SS.xs2 (fun {R} => laws_markInt64SS.l2 (R := R) N))], joins := [] }
theorem laws_markInt64SS.cons (N : Nat) : ConsOk Try.prog (laws_markInt64SS.cfg N).con := (consOk_cons (hb12) (laws_markInt64S.ok N) (laws_markInt64S.det N) consOk_nil)
theorem laws_markInt64SS.h2 {R : Type} (N : Nat) (d : laws_markInt64SS.sk2.D) (kn : laws_markInt64SS.sk2.D → Option R) (kx : XD laws_markInt64SS.xs2 → Option R) : roundK (laws_markInt64SS.cfg N) N (nthLoop (fnBody Try.f28) 0) laws_markInt64SS.sk2 laws_markInt64SS.xs2 d kn kx = laws_markInt64SS.l2 N d kn kx := by kernel_rfl
theorem laws_markInt64SS.i2 (N : Nat) : LoopsOk Try.prog (laws_markInt64SS.cfg N) (nthLoop (fnBody Try.f28) 0) := loopsL (l := []) (by kernel_rfl) trivial
theorem laws_markInt64SS.o2 (N : Nat) : LoopOk Try.prog (nthLoop (fnBody Try.f28) 0) (loopCon N laws_markInt64SS.sk2 laws_markInt64SS.xs2 (fun {R} => laws_markInt64SS.l2 (R := R) N)) := loop_ok (g := laws_markInt64SS.cfg N) tys_ok (laws_markInt64SS.cons N) mixed (laws_markInt64SS.i2 N) (fun d kn kx => laws_markInt64SS.h2 N d kn kx)
theorem laws_markInt64SS.ls (N : Nat) : LoopsOk Try.prog (laws_markInt64SS.cfg N) (fnBody Try.f28) := loopsL (l := [nthLoop (fnBody Try.f28) 0]) (by kernel_rfl) ⟨loopOne (L0 := loopCon N laws_markInt64SS.sk2 laws_markInt64SS.xs2 (fun {R} => laws_markInt64SS.l2 (R := R) N)) (id := 2) (by kernel_rfl) (by kernel_rfl) (laws_markInt64SS.o2 N), trivial⟩
theorem laws_markInt64SS.q2 {R R' : Type} {N n : Nat} {d} {k} {g : R → Option R'} : bindF (loopP (laws_markInt64SS.l2 N) n d k) g = loopP (laws_markInt64SS.l2 N) n d fun e => bindF (k e) g := bindF_loopP (fun d kn kx => by simp only [laws_markInt64SS.l2, bindF_ifB, bindF_bindO, bindF_pure, bindF_none, bindF_onSum]) n d k
theorem laws_markInt64SS.b (N : Nat) (x0 : den s22) (x1 : den (.int .i64)) : body (laws_markInt64SS.cfg N) N Try.f28 [.one, .one] [.iov, .v] [(false, .imm)] [⟨s22, (.own (.own .imm)), x0⟩, ⟨(.int .i64), .imm, x1⟩] (fun r i => some (r, i)) = bindO (laws_markInt64SS N x0 x1) fun r => some ([⟨(.int .i64), .imm, r.1⟩], [⟨s22, (.own (.own .imm)), r.2⟩]) := by
  show _ = bindF _ _
  conv => rhs; simp only [laws_markInt64SS, bindF_ifB, bindF_bindO, bindF_pure, bindF_none, bindF_onSum, laws_markInt64SS.q2]
  kernel_rfl
theorem laws_markInt64SS.ok (N : Nat) : ConOk Try.prog 28 [.one, .one] (laws_markInt64SS.con N) := ok2 (g := laws_markInt64SS.cfg N) (N := N) (res := [(false, .imm)]) tys_ok (laws_markInt64SS.cons N) mixed Try.func28 (laws_markInt64SS.ls N) rfl (laws_markInt64SS.b N)
theorem laws_markInt64SS.det (N : Nat) : ConDet (laws_markInt64SS.con N) := det2
def laws_markRing.con (N : Nat) : Con := { modes := [.iov, .v], ptrs := [false], fn := fn2 s23 (.pr (.own (.own .imm)) .imm) (.int .i64) .imm (laws_markRing N) (fun r => [⟨(.int .i64), .imm, r.1⟩]) (fun r => [⟨s23, (.pr (.own (.own .imm)) .imm), r.2⟩]) }
def laws_markRing.cfg (N : Nat) : Cfg := { ty := tys, keep := [8], flt := [], elm := elm0, live := [], ord := [], con := [((28, [.one, .one]), laws_markInt64SS.con N)], loops := [], joins := [] }
theorem laws_markRing.cons (N : Nat) : ConsOk Try.prog (laws_markRing.cfg N).con := (consOk_cons (hb28) (laws_markInt64SS.ok N) (laws_markInt64SS.det N) consOk_nil)
theorem laws_markRing.ls (N : Nat) : LoopsOk Try.prog (laws_markRing.cfg N) (fnBody Try.f11) := loopsL (l := []) (by kernel_rfl) trivial
theorem laws_markRing.b (N : Nat) (x0 : den s23) (x1 : den (.int .i64)) : body (laws_markRing.cfg N) N Try.f11 [.one, .one] [.iov, .v] [(false, .imm)] [⟨s23, (.pr (.own (.own .imm)) .imm), x0⟩, ⟨(.int .i64), .imm, x1⟩] (fun r i => some (r, i)) = bindO (laws_markRing N x0 x1) fun r => some ([⟨(.int .i64), .imm, r.1⟩], [⟨s23, (.pr (.own (.own .imm)) .imm), r.2⟩]) := by
  show _ = bindF _ _
  conv => rhs; simp only [laws_markRing, bindF_ifB, bindF_bindO, bindF_pure, bindF_none, bindF_onSum]
  kernel_rfl
theorem laws_markRing.ok (N : Nat) : ConOk Try.prog 11 [.one, .one] (laws_markRing.con N) := ok2 (g := laws_markRing.cfg N) (N := N) (res := [(false, .imm)]) tys_ok (laws_markRing.cons N) mixed Try.func11 (laws_markRing.ls N) rfl (laws_markRing.b N)
theorem laws_markRing.det (N : Nat) : ConDet (laws_markRing.con N) := det2
def laws_heldInt64S.sk2 : Skel := ⟨.pv s25 :: (.pv (.int .i64) :: (dd 3 (.pv (.int .i64) :: (dd 15 [])))), []⟩
def laws_heldInt64S.xs2 : List XS := [⟨.exit 0, [1], ⟨dd 1 (.pv (.int .i64) :: (dd 19 [])), []⟩⟩, ⟨.ret, [4], ⟨dd 4 (.pv (.int .i64) :: (dd 16 [])), []⟩⟩]
def laws_heldInt64S.con (N : Nat) : Con := { modes := [.v, .v], ptrs := [false], fn := fn2 s25 .imm (.int .i64) .imm (laws_heldInt64S N) (fun r => [⟨(.int .i64), .imm, r⟩]) (fun r => []) }
def laws_heldInt64S.cfg (N : Nat) : Cfg := { ty := tys, keep := [], flt := [], elm := elm0, live := [(2, [0, 1, 5])], ord := [], con := [], loops := [(2, loopCon N laws_heldInt64S.sk2 laws_heldInt64S.xs2 (fun {R} => laws_heldInt64S.l2 (R := R) N))], joins := [] }
theorem laws_heldInt64S.cons (N : Nat) : ConsOk Try.prog (laws_heldInt64S.cfg N).con := consOk_nil
theorem laws_heldInt64S.h2 {R : Type} (N : Nat) (d : laws_heldInt64S.sk2.D) (kn : laws_heldInt64S.sk2.D → Option R) (kx : XD laws_heldInt64S.xs2 → Option R) : roundK (laws_heldInt64S.cfg N) N (nthLoop (fnBody Try.f42) 0) laws_heldInt64S.sk2 laws_heldInt64S.xs2 d kn kx = laws_heldInt64S.l2 N d kn kx := by kernel_rfl
theorem laws_heldInt64S.i2 (N : Nat) : LoopsOk Try.prog (laws_heldInt64S.cfg N) (nthLoop (fnBody Try.f42) 0) := loopsL (l := []) (by kernel_rfl) trivial
theorem laws_heldInt64S.o2 (N : Nat) : LoopOk Try.prog (nthLoop (fnBody Try.f42) 0) (loopCon N laws_heldInt64S.sk2 laws_heldInt64S.xs2 (fun {R} => laws_heldInt64S.l2 (R := R) N)) := loop_ok (g := laws_heldInt64S.cfg N) tys_ok (laws_heldInt64S.cons N) mixed (laws_heldInt64S.i2 N) (fun d kn kx => laws_heldInt64S.h2 N d kn kx)
theorem laws_heldInt64S.ls (N : Nat) : LoopsOk Try.prog (laws_heldInt64S.cfg N) (fnBody Try.f42) := loopsL (l := [nthLoop (fnBody Try.f42) 0]) (by kernel_rfl) ⟨loopOne (L0 := loopCon N laws_heldInt64S.sk2 laws_heldInt64S.xs2 (fun {R} => laws_heldInt64S.l2 (R := R) N)) (id := 2) (by kernel_rfl) (by kernel_rfl) (laws_heldInt64S.o2 N), trivial⟩
theorem laws_heldInt64S.q2 {R R' : Type} {N n : Nat} {d} {k} {g : R → Option R'} : bindF (loopP (laws_heldInt64S.l2 N) n d k) g = loopP (laws_heldInt64S.l2 N) n d fun e => bindF (k e) g := bindF_loopP (fun d kn kx => by simp only [laws_heldInt64S.l2, bindF_ifB, bindF_bindO, bindF_pure, bindF_none, bindF_onSum]) n d k
theorem laws_heldInt64S.b (N : Nat) (x0 : den s25) (x1 : den (.int .i64)) : body (laws_heldInt64S.cfg N) N Try.f42 [.one, .one] [.v, .v] [(false, .imm)] [⟨s25, .imm, x0⟩, ⟨(.int .i64), .imm, x1⟩] (fun r i => some (r, i)) = bindO (laws_heldInt64S N x0 x1) fun r => some ([⟨(.int .i64), .imm, r⟩], []) := by
  show _ = bindF _ _
  conv => rhs; simp only [laws_heldInt64S, bindF_ifB, bindF_bindO, bindF_pure, bindF_none, bindF_onSum, laws_heldInt64S.q2]
  kernel_rfl
theorem laws_heldInt64S.ok (N : Nat) : ConOk Try.prog 42 [.one, .one] (laws_heldInt64S.con N) := ok2 (g := laws_heldInt64S.cfg N) (N := N) (res := [(false, .imm)]) tys_ok (laws_heldInt64S.cons N) mixed Try.func42 (laws_heldInt64S.ls N) rfl (laws_heldInt64S.b N)
theorem laws_heldInt64S.det (N : Nat) : ConDet (laws_heldInt64S.con N) := det2
def laws_heldInt64SS.sk2 : Skel := ⟨.pv s22 :: (.pv (.int .i64) :: (dd 3 (.pv (.int .i64) :: (dd 15 [])))), []⟩
def laws_heldInt64SS.xs2 : List XS := [⟨.exit 0, [1], ⟨dd 1 (.pv (.int .i64) :: (dd 19 [])), []⟩⟩, ⟨.ret, [4], ⟨dd 4 (.pv (.int .i64) :: (dd 16 [])), []⟩⟩]
def laws_heldInt64SS.con (N : Nat) : Con := { modes := [.v, .v], ptrs := [false], fn := fn2 s22 .imm (.int .i64) .imm (laws_heldInt64SS N) (fun r => [⟨(.int .i64), .imm, r⟩]) (fun r => []) }
def laws_heldInt64SS.cfg (N : Nat) : Cfg := { ty := tys, keep := [17], flt := [], elm := elm0, live := [(2, [0, 1, 5])], ord := [], con := [((42, [.one, .one]), laws_heldInt64S.con N)], loops := [(2, loopCon N laws_heldInt64SS.sk2 laws_heldInt64SS.xs2 (fun {R} => laws_heldInt64SS.l2 (R := R) N))], joins := [] }
theorem laws_heldInt64SS.cons (N : Nat) : ConsOk Try.prog (laws_heldInt64SS.cfg N).con := (consOk_cons (hb42) (laws_heldInt64S.ok N) (laws_heldInt64S.det N) consOk_nil)
theorem laws_heldInt64SS.h2 {R : Type} (N : Nat) (d : laws_heldInt64SS.sk2.D) (kn : laws_heldInt64SS.sk2.D → Option R) (kx : XD laws_heldInt64SS.xs2 → Option R) : roundK (laws_heldInt64SS.cfg N) N (nthLoop (fnBody Try.f29) 0) laws_heldInt64SS.sk2 laws_heldInt64SS.xs2 d kn kx = laws_heldInt64SS.l2 N d kn kx := by kernel_rfl
theorem laws_heldInt64SS.i2 (N : Nat) : LoopsOk Try.prog (laws_heldInt64SS.cfg N) (nthLoop (fnBody Try.f29) 0) := loopsL (l := []) (by kernel_rfl) trivial
theorem laws_heldInt64SS.o2 (N : Nat) : LoopOk Try.prog (nthLoop (fnBody Try.f29) 0) (loopCon N laws_heldInt64SS.sk2 laws_heldInt64SS.xs2 (fun {R} => laws_heldInt64SS.l2 (R := R) N)) := loop_ok (g := laws_heldInt64SS.cfg N) tys_ok (laws_heldInt64SS.cons N) mixed (laws_heldInt64SS.i2 N) (fun d kn kx => laws_heldInt64SS.h2 N d kn kx)
theorem laws_heldInt64SS.ls (N : Nat) : LoopsOk Try.prog (laws_heldInt64SS.cfg N) (fnBody Try.f29) := loopsL (l := [nthLoop (fnBody Try.f29) 0]) (by kernel_rfl) ⟨loopOne (L0 := loopCon N laws_heldInt64SS.sk2 laws_heldInt64SS.xs2 (fun {R} => laws_heldInt64SS.l2 (R := R) N)) (id := 2) (by kernel_rfl) (by kernel_rfl) (laws_heldInt64SS.o2 N), trivial⟩
theorem laws_heldInt64SS.q2 {R R' : Type} {N n : Nat} {d} {k} {g : R → Option R'} : bindF (loopP (laws_heldInt64SS.l2 N) n d k) g = loopP (laws_heldInt64SS.l2 N) n d fun e => bindF (k e) g := bindF_loopP (fun d kn kx => by simp only [laws_heldInt64SS.l2, bindF_ifB, bindF_bindO, bindF_pure, bindF_none, bindF_onSum]) n d k
theorem laws_heldInt64SS.b (N : Nat) (x0 : den s22) (x1 : den (.int .i64)) : body (laws_heldInt64SS.cfg N) N Try.f29 [.one, .one] [.v, .v] [(false, .imm)] [⟨s22, .imm, x0⟩, ⟨(.int .i64), .imm, x1⟩] (fun r i => some (r, i)) = bindO (laws_heldInt64SS N x0 x1) fun r => some ([⟨(.int .i64), .imm, r⟩], []) := by
  show _ = bindF _ _
  conv => rhs; simp only [laws_heldInt64SS, bindF_ifB, bindF_bindO, bindF_pure, bindF_none, bindF_onSum, laws_heldInt64SS.q2]
  kernel_rfl
theorem laws_heldInt64SS.ok (N : Nat) : ConOk Try.prog 29 [.one, .one] (laws_heldInt64SS.con N) := ok2 (g := laws_heldInt64SS.cfg N) (N := N) (res := [(false, .imm)]) tys_ok (laws_heldInt64SS.cons N) mixed Try.func29 (laws_heldInt64SS.ls N) rfl (laws_heldInt64SS.b N)
theorem laws_heldInt64SS.det (N : Nat) : ConDet (laws_heldInt64SS.con N) := det2
def laws_heldRing.con (N : Nat) : Con := { modes := [.v, .v], ptrs := [false], fn := fn2 s23 .imm (.int .i64) .imm (laws_heldRing N) (fun r => [⟨(.int .i64), .imm, r⟩]) (fun r => []) }
def laws_heldRing.cfg (N : Nat) : Cfg := { ty := tys, keep := [8], flt := [], elm := elm0, live := [], ord := [], con := [((29, [.one, .one]), laws_heldInt64SS.con N)], loops := [], joins := [] }
theorem laws_heldRing.cons (N : Nat) : ConsOk Try.prog (laws_heldRing.cfg N).con := (consOk_cons (hb29) (laws_heldInt64SS.ok N) (laws_heldInt64SS.det N) consOk_nil)
theorem laws_heldRing.ls (N : Nat) : LoopsOk Try.prog (laws_heldRing.cfg N) (fnBody Try.f13) := loopsL (l := []) (by kernel_rfl) trivial
theorem laws_heldRing.b (N : Nat) (x0 : den s23) (x1 : den (.int .i64)) : body (laws_heldRing.cfg N) N Try.f13 [.one, .one] [.v, .v] [(false, .imm)] [⟨s23, .imm, x0⟩, ⟨(.int .i64), .imm, x1⟩] (fun r i => some (r, i)) = bindO (laws_heldRing N x0 x1) fun r => some ([⟨(.int .i64), .imm, r⟩], []) := by
  show _ = bindF _ _
  conv => rhs; simp only [laws_heldRing, bindF_ifB, bindF_bindO, bindF_pure, bindF_none, bindF_onSum]
  kernel_rfl
theorem laws_heldRing.ok (N : Nat) : ConOk Try.prog 13 [.one, .one] (laws_heldRing.con N) := ok2 (g := laws_heldRing.cfg N) (N := N) (res := [(false, .imm)]) tys_ok (laws_heldRing.cons N) mixed Try.func13 (laws_heldRing.ls N) rfl (laws_heldRing.b N)
theorem laws_heldRing.det (N : Nat) : ConDet (laws_heldRing.con N) := det2
def laws_FnExactRingJoin.con (N : Nat) : Con := { modes := [.v, .v, .v], ptrs := [false], fn := fn3 s23 .imm s25 .imm .bool .imm (laws_FnExactRingJoin N) (fun r => [⟨.bool, .imm, r⟩]) (fun r => []) }
def laws_FnExactRingJoin.cfg (N : Nat) : Cfg := { ty := tys, keep := [21, 25, 27, 29, 31, 33, 37, 40, 44, 45, 49, 50, 54, 57, 63, 68, 71, 78, 80, 82, 85, 89], flt := [], elm := elm0, live := [], ord := [(13, [0, 1, 2, 3, 4])], con := [((4, [.one, .one]), laws_szRing.con N), ((6, [.one]), laws_toRing.con N), ((7, [.one]), laws_toInt64S.con N), ((5, [.one, .one, .one]), spec_RingJoin.con N), ((8, [.one, .one, .one]), impl_RingJoin.con N), ((9, [.one, .one]), laws_eqRing.con N), ((10, [.one, .one]), laws_eqInt64S.con N), ((11, [.one, .one]), laws_markRing.con N), ((12, [.one, .one]), laws_markInt64S.con N), ((13, [.one, .one]), laws_heldRing.con N)], loops := [], joins := [] }
theorem laws_FnExactRingJoin.cons (N : Nat) : ConsOk Try.prog (laws_FnExactRingJoin.cfg N).con := (consOk_cons (hb4) (laws_szRing.ok N) (laws_szRing.det N) (consOk_cons (hb6) (laws_toRing.ok N) (laws_toRing.det N) (consOk_cons (hb7) (laws_toInt64S.ok N) (laws_toInt64S.det N) (consOk_cons (hb5) (spec_RingJoin.ok N) (spec_RingJoin.det N) (consOk_cons (hb8) (impl_RingJoin.ok N) (impl_RingJoin.det N) (consOk_cons (hb9) (laws_eqRing.ok N) (laws_eqRing.det N) (consOk_cons (hb10) (laws_eqInt64S.ok N) (laws_eqInt64S.det N) (consOk_cons (hb11) (laws_markRing.ok N) (laws_markRing.det N) (consOk_cons (hb12) (laws_markInt64S.ok N) (laws_markInt64S.det N) (consOk_cons (hb13) (laws_heldRing.ok N) (laws_heldRing.det N) consOk_nil))))))))))
theorem laws_FnExactRingJoin.ls (N : Nat) : LoopsOk Try.prog (laws_FnExactRingJoin.cfg N) (fnBody Try.f3) := loopsL (l := []) (by kernel_rfl) trivial
theorem laws_FnExactRingJoin.b (N : Nat) (x0 : den s23) (x1 : den s25) (x2 : den .bool) : body (laws_FnExactRingJoin.cfg N) N Try.f3 [.one, .one, .one] [.v, .v, .v] [(false, .imm)] [⟨s23, .imm, x0⟩, ⟨s25, .imm, x1⟩, ⟨.bool, .imm, x2⟩] (fun r i => some (r, i)) = bindO (laws_FnExactRingJoin N x0 x1 x2) fun r => some ([⟨.bool, .imm, r⟩], []) := by
  show _ = bindF _ _
  conv => rhs; simp only [laws_FnExactRingJoin, bindF_ifB, bindF_bindO, bindF_pure, bindF_none, bindF_onSum]
  kernel_rfl
theorem laws_FnExactRingJoin.ok (N : Nat) : ConOk Try.prog 3 [.one, .one, .one] (laws_FnExactRingJoin.con N) := ok3 (g := laws_FnExactRingJoin.cfg N) (N := N) (res := [(false, .imm)]) tys_ok (laws_FnExactRingJoin.cons N) mixed Try.func3 (laws_FnExactRingJoin.ls N) rfl (laws_FnExactRingJoin.b N)
theorem laws_FnExactRingJoin.det (N : Nat) : ConDet (laws_FnExactRingJoin.con N) := det3
end Go.AE.F
end
