/- The printed functions are what the program comes to: contracts. -/
import Derived.Test.YtliimhlefbnamaaLRingL2
noncomputable section
namespace Go.AE.F
open Go.AE Go.Proofs
set_option maxRecDepth 100000
def impl_RingPush.con (N : Nat) : Con := { modes := [.v, .v], ptrs := [false], fn := fn2 s24 .imm s26 .imm (impl_RingPush N) (fun r => [⟨s24, (.pr (.own (.own .imm)) .imm), r⟩]) (fun r => []) }
def impl_RingPush.cfg (N : Nat) : Cfg := { ty := tys, keep := [8, 12, 16, 20, 23], flt := [], elm := elm0, live := [], ord := [], con := [((21, [.one]), impl_isMany.con N), ((11, [.one]), impl_RingRight.con N), ((22, [.one]), impl_isItem.con N), ((23, [.one]), impl_ownRing.con N), ((24, [.one, .one]), impl_push.con N)], loops := [], joins := [] }
theorem impl_RingPush.cons (N : Nat) : ConsOk Try.prog (impl_RingPush.cfg N).con := (consOk_cons (hb21) (impl_isMany.ok N) (impl_isMany.det N) (consOk_cons (hb11) (impl_RingRight.ok N) (impl_RingRight.det N) (consOk_cons (hb22) (impl_isItem.ok N) (impl_isItem.det N) (consOk_cons (hb23) (impl_ownRing.ok N) (impl_ownRing.det N) (consOk_cons (hb24) (impl_push.ok N) (impl_push.det N) consOk_nil)))))
theorem impl_RingPush.ls (N : Nat) : LoopsOk Try.prog (impl_RingPush.cfg N) (fnBody Try.f6) := loopsL (l := []) (by kernel_rfl) trivial
theorem impl_RingPush.b (N : Nat) (x0 : den s24) (x1 : den s26) : body (impl_RingPush.cfg N) N Try.f6 [.one, .one] [.v, .v] [(false, (.pr (.own (.own .imm)) .imm))] [⟨s24, .imm, x0⟩, ⟨s26, .imm, x1⟩] (fun r i => some (r, i)) = bindO (impl_RingPush N x0 x1) fun r => some ([⟨s24, (.pr (.own (.own .imm)) .imm), r⟩], []) := by
  show _ = bindF _ _
  conv => rhs; simp only [impl_RingPush, bindF_ifB, bindF_bindO, bindF_pure, bindF_none, bindF_onSum]
  kernel_rfl
theorem impl_RingPush.ok (N : Nat) : ConOk Try.prog 6 [.one, .one] (impl_RingPush.con N) := ok2 (g := impl_RingPush.cfg N) (N := N) (res := [(false, (.pr (.own (.own .imm)) .imm))]) tys_ok (impl_RingPush.cons N) mixed Try.func6 (impl_RingPush.ls N) rfl (impl_RingPush.b N)
theorem impl_RingPush.det (N : Nat) : ConDet (impl_RingPush.con N) := det2
def laws_lwSame.sk4 : Skel := ⟨.pv s26 :: (.pv s26 :: (dd 3 (.pv (.int .i64) :: (dd 20 [])))), []⟩
def laws_lwSame.xs4 : List XS := [⟨.exit 0, [], ⟨dd 26 [], []⟩⟩, ⟨.ret, [4], ⟨dd 4 (.pv .bool :: (dd 21 [])), []⟩⟩]
def laws_lwSame.con (N : Nat) : Con := { modes := [.v, .v], ptrs := [false], fn := fn2 s26 .imm s26 .imm (laws_lwSame N) (fun r => [⟨.bool, .imm, r⟩]) (fun r => []) }
def laws_lwSame.cfg (N : Nat) : Cfg := { ty := tys, keep := [], flt := [], elm := elm0, live := [(4, [0, 1, 5])], ord := [(6, [0, 1, 2, 3, 4, 5, 6, 7, 8])], con := [], loops := [(4, loopCon N laws_lwSame.sk4 laws_lwSame.xs4 (fun {R} => laws_lwSame.l4 (R := R) N))], joins := [] }
theorem laws_lwSame.cons (N : Nat) : ConsOk Try.prog (laws_lwSame.cfg N).con := consOk_nil
theorem laws_lwSame.h4 {R : Type} (N : Nat) (d : laws_lwSame.sk4.D) (kn : laws_lwSame.sk4.D → Option R) (kx : XD laws_lwSame.xs4 → Option R) : roundK (laws_lwSame.cfg N) N (nthLoop (fnBody Try.f12) 0) laws_lwSame.sk4 laws_lwSame.xs4 d kn kx = laws_lwSame.l4 N d kn kx := by kernel_rfl
theorem laws_lwSame.i4 (N : Nat) : LoopsOk Try.prog (laws_lwSame.cfg N) (nthLoop (fnBody Try.f12) 0) := loopsL (l := []) (by kernel_rfl) trivial
theorem laws_lwSame.o4 (N : Nat) : LoopOk Try.prog (nthLoop (fnBody Try.f12) 0) (loopCon N laws_lwSame.sk4 laws_lwSame.xs4 (fun {R} => laws_lwSame.l4 (R := R) N)) := loop_ok (g := laws_lwSame.cfg N) tys_ok (laws_lwSame.cons N) mixed (laws_lwSame.i4 N) (fun d kn kx => laws_lwSame.h4 N d kn kx)
theorem laws_lwSame.ls (N : Nat) : LoopsOk Try.prog (laws_lwSame.cfg N) (fnBody Try.f12) := loopsL (l := [nthLoop (fnBody Try.f12) 0]) (by kernel_rfl) ⟨loopOne (L0 := loopCon N laws_lwSame.sk4 laws_lwSame.xs4 (fun {R} => laws_lwSame.l4 (R := R) N)) (id := 4) (by kernel_rfl) (by kernel_rfl) (laws_lwSame.o4 N), trivial⟩
theorem laws_lwSame.q4 {R R' : Type} {N n : Nat} {d} {k} {g : R → Option R'} : bindF (loopP (laws_lwSame.l4 N) n d k) g = loopP (laws_lwSame.l4 N) n d fun e => bindF (k e) g := bindF_loopP (fun d kn kx => by simp only [laws_lwSame.l4, bindF_ifB, bindF_bindO, bindF_pure, bindF_none, bindF_onSum]) n d k
theorem laws_lwSame.b (N : Nat) (x0 : den s26) (x1 : den s26) : body (laws_lwSame.cfg N) N Try.f12 [.one, .one] [.v, .v] [(false, .imm)] [⟨s26, .imm, x0⟩, ⟨s26, .imm, x1⟩] (fun r i => some (r, i)) = bindO (laws_lwSame N x0 x1) fun r => some ([⟨.bool, .imm, r⟩], []) := by
  show _ = bindF _ _
  conv => rhs; simp only [laws_lwSame, bindF_ifB, bindF_bindO, bindF_pure, bindF_none, bindF_onSum, laws_lwSame.q4]
  kernel_rfl
theorem laws_lwSame.ok (N : Nat) : ConOk Try.prog 12 [.one, .one] (laws_lwSame.con N) := ok2 (g := laws_lwSame.cfg N) (N := N) (res := [(false, .imm)]) tys_ok (laws_lwSame.cons N) mixed Try.func12 (laws_lwSame.ls N) rfl (laws_lwSame.b N)
theorem laws_lwSame.det (N : Nat) : ConDet (laws_lwSame.con N) := det2
def laws_lwLists.sk4 : Skel := ⟨.pv s23 :: (.pv s23 :: (dd 3 (.pv (.int .i64) :: (dd 21 [])))), []⟩
def laws_lwLists.xs4 : List XS := [⟨.exit 0, [], ⟨dd 27 [], []⟩⟩, ⟨.ret, [4], ⟨dd 4 (.pv .bool :: (dd 22 [])), []⟩⟩]
def laws_lwLists.con (N : Nat) : Con := { modes := [.v, .v], ptrs := [false], fn := fn2 s23 .imm s23 .imm (laws_lwLists N) (fun r => [⟨.bool, .imm, r⟩]) (fun r => []) }
def laws_lwLists.cfg (N : Nat) : Cfg := { ty := tys, keep := [25], flt := [], elm := elm0, live := [(4, [0, 1, 5])], ord := [(6, [0, 1, 2, 3, 4, 5, 6, 7, 8, 9])], con := [((12, [.one, .one]), laws_lwSame.con N)], loops := [(4, loopCon N laws_lwLists.sk4 laws_lwLists.xs4 (fun {R} => laws_lwLists.l4 (R := R) N))], joins := [] }
theorem laws_lwLists.cons (N : Nat) : ConsOk Try.prog (laws_lwLists.cfg N).con := (consOk_cons (hb12) (laws_lwSame.ok N) (laws_lwSame.det N) consOk_nil)
theorem laws_lwLists.h4 {R : Type} (N : Nat) (d : laws_lwLists.sk4.D) (kn : laws_lwLists.sk4.D → Option R) (kx : XD laws_lwLists.xs4 → Option R) : roundK (laws_lwLists.cfg N) N (nthLoop (fnBody Try.f25) 0) laws_lwLists.sk4 laws_lwLists.xs4 d kn kx = laws_lwLists.l4 N d kn kx := by kernel_rfl
theorem laws_lwLists.i4 (N : Nat) : LoopsOk Try.prog (laws_lwLists.cfg N) (nthLoop (fnBody Try.f25) 0) := loopsL (l := []) (by kernel_rfl) trivial
theorem laws_lwLists.o4 (N : Nat) : LoopOk Try.prog (nthLoop (fnBody Try.f25) 0) (loopCon N laws_lwLists.sk4 laws_lwLists.xs4 (fun {R} => laws_lwLists.l4 (R := R) N)) := loop_ok (g := laws_lwLists.cfg N) tys_ok (laws_lwLists.cons N) mixed (laws_lwLists.i4 N) (fun d kn kx => laws_lwLists.h4 N d kn kx)
theorem laws_lwLists.ls (N : Nat) : LoopsOk Try.prog (laws_lwLists.cfg N) (fnBody Try.f25) := loopsL (l := [nthLoop (fnBody Try.f25) 0]) (by kernel_rfl) ⟨loopOne (L0 := loopCon N laws_lwLists.sk4 laws_lwLists.xs4 (fun {R} => laws_lwLists.l4 (R := R) N)) (id := 4) (by kernel_rfl) (by kernel_rfl) (laws_lwLists.o4 N), trivial⟩
theorem laws_lwLists.q4 {R R' : Type} {N n : Nat} {d} {k} {g : R → Option R'} : bindF (loopP (laws_lwLists.l4 N) n d k) g = loopP (laws_lwLists.l4 N) n d fun e => bindF (k e) g := bindF_loopP (fun d kn kx => by simp only [laws_lwLists.l4, bindF_ifB, bindF_bindO, bindF_pure, bindF_none, bindF_onSum]) n d k
theorem laws_lwLists.b (N : Nat) (x0 : den s23) (x1 : den s23) : body (laws_lwLists.cfg N) N Try.f25 [.one, .one] [.v, .v] [(false, .imm)] [⟨s23, .imm, x0⟩, ⟨s23, .imm, x1⟩] (fun r i => some (r, i)) = bindO (laws_lwLists N x0 x1) fun r => some ([⟨.bool, .imm, r⟩], []) := by
  show _ = bindF _ _
  conv => rhs; simp only [laws_lwLists, bindF_ifB, bindF_bindO, bindF_pure, bindF_none, bindF_onSum, laws_lwLists.q4]
  kernel_rfl
theorem laws_lwLists.ok (N : Nat) : ConOk Try.prog 25 [.one, .one] (laws_lwLists.con N) := ok2 (g := laws_lwLists.cfg N) (N := N) (res := [(false, .imm)]) tys_ok (laws_lwLists.cons N) mixed Try.func25 (laws_lwLists.ls N) rfl (laws_lwLists.b N)
theorem laws_lwLists.det (N : Nat) : ConDet (laws_lwLists.con N) := det2
def laws_lwRing.con (N : Nat) : Con := { modes := [.v, .v], ptrs := [false], fn := fn2 s24 .imm s24 .imm (laws_lwRing N) (fun r => [⟨.bool, .imm, r⟩]) (fun r => []) }
def laws_lwRing.cfg (N : Nat) : Cfg := { ty := tys, keep := [9], flt := [], elm := elm0, live := [], ord := [], con := [((25, [.one, .one]), laws_lwLists.con N)], loops := [], joins := [] }
theorem laws_lwRing.cons (N : Nat) : ConsOk Try.prog (laws_lwRing.cfg N).con := (consOk_cons (hb25) (laws_lwLists.ok N) (laws_lwLists.det N) consOk_nil)
theorem laws_lwRing.ls (N : Nat) : LoopsOk Try.prog (laws_lwRing.cfg N) (fnBody Try.f8) := loopsL (l := []) (by kernel_rfl) trivial
theorem laws_lwRing.b (N : Nat) (x0 : den s24) (x1 : den s24) : body (laws_lwRing.cfg N) N Try.f8 [.one, .one] [.v, .v] [(false, .imm)] [⟨s24, .imm, x0⟩, ⟨s24, .imm, x1⟩] (fun r i => some (r, i)) = bindO (laws_lwRing N x0 x1) fun r => some ([⟨.bool, .imm, r⟩], []) := by
  show _ = bindF _ _
  conv => rhs; simp only [laws_lwRing, bindF_ifB, bindF_bindO, bindF_pure, bindF_none, bindF_onSum]
  kernel_rfl
theorem laws_lwRing.ok (N : Nat) : ConOk Try.prog 8 [.one, .one] (laws_lwRing.con N) := ok2 (g := laws_lwRing.cfg N) (N := N) (res := [(false, .imm)]) tys_ok (laws_lwRing.cons N) mixed Try.func8 (laws_lwRing.ls N) rfl (laws_lwRing.b N)
theorem laws_lwRing.det (N : Nat) : ConDet (laws_lwRing.con N) := det2
def impl_RingTop.con (N : Nat) : Con := { modes := [.v], ptrs := [false], fn := fn1 s24 .imm (impl_RingTop N) (fun r => [⟨s26, (.own .imm), r⟩]) (fun r => []) }
def impl_RingTop.cfg (N : Nat) : Cfg := { ty := tys, keep := [4, 18], flt := [], elm := elm0, live := [], ord := [], con := [((11, [.one]), impl_RingRight.con N), ((31, [.one]), slices_Clone_Sint64_int64.con N)], loops := [], joins := [] }
theorem impl_RingTop.cons (N : Nat) : ConsOk Try.prog (impl_RingTop.cfg N).con := (consOk_cons (hb11) (impl_RingRight.ok N) (impl_RingRight.det N) (consOk_cons (hb31) (slices_Clone_Sint64_int64.ok N) (slices_Clone_Sint64_int64.det N) consOk_nil))
theorem impl_RingTop.ls (N : Nat) : LoopsOk Try.prog (impl_RingTop.cfg N) (fnBody Try.f13) := loopsL (l := []) (by kernel_rfl) trivial
theorem impl_RingTop.b (N : Nat) (x0 : den s24) : body (impl_RingTop.cfg N) N Try.f13 [.one] [.v] [(false, (.own .imm))] [⟨s24, .imm, x0⟩] (fun r i => some (r, i)) = bindO (impl_RingTop N x0) fun r => some ([⟨s26, (.own .imm), r⟩], []) := by
  show _ = bindF _ _
  conv => rhs; simp only [impl_RingTop, bindF_ifB, bindF_bindO, bindF_pure, bindF_none, bindF_onSum]
  kernel_rfl
theorem impl_RingTop.ok (N : Nat) : ConOk Try.prog 13 [.one] (impl_RingTop.con N) := ok1 (g := impl_RingTop.cfg N) (N := N) (res := [(false, (.own .imm))]) tys_ok (impl_RingTop.cons N) mixed Try.func13 (impl_RingTop.ls N) rfl (impl_RingTop.b N)
theorem impl_RingTop.det (N : Nat) : ConDet (impl_RingTop.con N) := det1
def impl_RingTurn.con (N : Nat) : Con := { modes := [.v], ptrs := [false], fn := fn1 s24 .imm (impl_RingTurn N) (fun r => [⟨s24, (.pr (.own (.own .imm)) .imm), r⟩]) (fun r => []) }
def impl_RingTurn.cfg (N : Nat) : Cfg := { ty := tys, keep := [5, 7, 19], flt := [], elm := elm0, live := [], ord := [(3, [0, 1, 2, 3, 4, 5, 6, 7, 8])], con := [((23, [.one]), impl_ownRing.con N), ((11, [.one]), impl_RingRight.con N), ((30, [.one]), impl_size_SSint64.con N)], loops := [], joins := [] }
theorem impl_RingTurn.cons (N : Nat) : ConsOk Try.prog (impl_RingTurn.cfg N).con := (consOk_cons (hb23) (impl_ownRing.ok N) (impl_ownRing.det N) (consOk_cons (hb11) (impl_RingRight.ok N) (impl_RingRight.det N) (consOk_cons (hb30) (impl_size_SSint64.ok N) (impl_size_SSint64.det N) consOk_nil)))
theorem impl_RingTurn.ls (N : Nat) : LoopsOk Try.prog (impl_RingTurn.cfg N) (fnBody Try.f14) := loopsL (l := []) (by kernel_rfl) trivial
theorem impl_RingTurn.b (N : Nat) (x0 : den s24) : body (impl_RingTurn.cfg N) N Try.f14 [.one] [.v] [(false, (.pr (.own (.own .imm)) .imm))] [⟨s24, .imm, x0⟩] (fun r i => some (r, i)) = bindO (impl_RingTurn N x0) fun r => some ([⟨s24, (.pr (.own (.own .imm)) .imm), r⟩], []) := by
  show _ = bindF _ _
  conv => rhs; simp only [impl_RingTurn, bindF_ifB, bindF_bindO, bindF_pure, bindF_none, bindF_onSum]
  kernel_rfl
theorem impl_RingTurn.ok (N : Nat) : ConOk Try.prog 14 [.one] (impl_RingTurn.con N) := ok1 (g := impl_RingTurn.cfg N) (N := N) (res := [(false, (.pr (.own (.own .imm)) .imm))]) tys_ok (impl_RingTurn.cons N) mixed Try.func14 (impl_RingTurn.ls N) rfl (impl_RingTurn.b N)
theorem impl_RingTurn.det (N : Nat) : ConDet (impl_RingTurn.con N) := det1
def laws_FnRing.sk14 : Skel := ⟨dd 5 (.ptr 50 [] :: (.ptr 51 [] :: (.ptr 52 [] :: (.pv (.int .i64) :: (dd 55 []))))), [⟨50, s24, .imm, true, false⟩, ⟨51, s24, .imm, true, false⟩, ⟨52, s24, .imm, true, false⟩]⟩
def laws_FnRing.xs14 : List XS := [⟨.exit 0, [6, 7], ⟨dd 6 (.ptr 50 [] :: (.ptr 51 [] :: (dd 56 []))), [⟨50, s24, .imm, true, false⟩, ⟨51, s24, .imm, true, false⟩]⟩⟩]
def laws_FnRing.con (N : Nat) : Con := { modes := [.v], ptrs := [false], fn := fn1 s22 .imm (laws_FnRing N) (fun r => [⟨.bool, .imm, r⟩]) (fun r => []) }
def laws_FnRing.cfg (N : Nat) : Cfg := { ty := tys, keep := [], flt := [], elm := elm0, live := [(14, [5, 6, 7, 8])], ord := [(5, [4, 0, 1, 2, 3, 5])], con := [((4, [.one]), spec_DrawRingPush.con N), ((5, [.one, .one]), spec_RingPush.con N), ((7, [.one]), laws_lwCopy.con N), ((6, [.one, .one]), impl_RingPush.con N), ((8, [.one, .one]), laws_lwRing.con N), ((9, [.one]), spec_RingRight.con N), ((10, [.one]), spec_PointsRight.con N), ((11, [.one]), impl_RingRight.con N), ((13, [.one]), impl_RingTop.con N), ((12, [.one, .one]), laws_lwSame.con N), ((14, [.one]), impl_RingTurn.con N)], loops := [(14, loopCon N laws_FnRing.sk14 laws_FnRing.xs14 (fun {R} => laws_FnRing.l14 (R := R) N))], joins := [] }
theorem laws_FnRing.cons (N : Nat) : ConsOk Try.prog (laws_FnRing.cfg N).con := (consOk_cons (hb4) (spec_DrawRingPush.ok N) (spec_DrawRingPush.det N) (consOk_cons (hb5) (spec_RingPush.ok N) (spec_RingPush.det N) (consOk_cons (hb7) (laws_lwCopy.ok N) (laws_lwCopy.det N) (consOk_cons (hb6) (impl_RingPush.ok N) (impl_RingPush.det N) (consOk_cons (hb8) (laws_lwRing.ok N) (laws_lwRing.det N) (consOk_cons (hb9) (spec_RingRight.ok N) (spec_RingRight.det N) (consOk_cons (hb10) (spec_PointsRight.ok N) (spec_PointsRight.det N) (consOk_cons (hb11) (impl_RingRight.ok N) (impl_RingRight.det N) (consOk_cons (hb13) (impl_RingTop.ok N) (impl_RingTop.det N) (consOk_cons (hb12) (laws_lwSame.ok N) (laws_lwSame.det N) (consOk_cons (hb14) (impl_RingTurn.ok N) (impl_RingTurn.det N) consOk_nil)))))))))))
theorem laws_FnRing.h14 {R : Type} (N : Nat) (d : laws_FnRing.sk14.D) (kn : laws_FnRing.sk14.D → Option R) (kx : XD laws_FnRing.xs14 → Option R) : roundK (laws_FnRing.cfg N) N (nthLoop (fnBody Try.f3) 0) laws_FnRing.sk14 laws_FnRing.xs14 d kn kx = laws_FnRing.l14 N d kn kx := by kernel_rfl
theorem laws_FnRing.i14 (N : Nat) : LoopsOk Try.prog (laws_FnRing.cfg N) (nthLoop (fnBody Try.f3) 0) := loopsL (l := []) (by kernel_rfl) trivial
theorem laws_FnRing.o14 (N : Nat) : LoopOk Try.prog (nthLoop (fnBody Try.f3) 0) (loopCon N laws_FnRing.sk14 laws_FnRing.xs14 (fun {R} => laws_FnRing.l14 (R := R) N)) := loop_ok (g := laws_FnRing.cfg N) tys_ok (laws_FnRing.cons N) mixed (laws_FnRing.i14 N) (fun d kn kx => laws_FnRing.h14 N d kn kx)
theorem laws_FnRing.ls (N : Nat) : LoopsOk Try.prog (laws_FnRing.cfg N) (fnBody Try.f3) := loopsL (l := [nthLoop (fnBody Try.f3) 0]) (by kernel_rfl) ⟨loopOne (L0 := loopCon N laws_FnRing.sk14 laws_FnRing.xs14 (fun {R} => laws_FnRing.l14 (R := R) N)) (id := 14) (by kernel_rfl) (by kernel_rfl) (laws_FnRing.o14 N), trivial⟩
theorem laws_FnRing.q14 {R R' : Type} {N n : Nat} {d} {k} {g : R → Option R'} : bindF (loopP (laws_FnRing.l14 N) n d k) g = loopP (laws_FnRing.l14 N) n d fun e => bindF (k e) g := bindF_loopP (fun d kn kx => by simp only [laws_FnRing.l14, bindF_ifB, bindF_bindO, bindF_pure, bindF_none, bindF_onSum]) n d k
theorem laws_FnRing.b (N : Nat) (x0 : den s22) : body (laws_FnRing.cfg N) N Try.f3 [.one] [.v] [(false, .imm)] [⟨s22, .imm, x0⟩] (fun r i => some (r, i)) = bindO (laws_FnRing N x0) fun r => some ([⟨.bool, .imm, r⟩], []) := by
  show _ = bindF _ _
  conv => rhs; simp only [laws_FnRing, bindF_ifB, bindF_bindO, bindF_pure, bindF_none, bindF_onSum, laws_FnRing.q14]
  kernel_rfl
theorem laws_FnRing.ok (N : Nat) : ConOk Try.prog 3 [.one] (laws_FnRing.con N) := ok1 (g := laws_FnRing.cfg N) (N := N) (res := [(false, .imm)]) tys_ok (laws_FnRing.cons N) mixed Try.func3 (laws_FnRing.ls N) rfl (laws_FnRing.b N)
theorem laws_FnRing.det (N : Nat) : ConDet (laws_FnRing.con N) := det1
end Go.AE.F
end
