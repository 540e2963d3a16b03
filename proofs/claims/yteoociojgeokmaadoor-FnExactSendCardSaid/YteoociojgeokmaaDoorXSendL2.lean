/- The printed functions are what the program comes to: contracts. -/
import Derived.Test.YteoociojgeokmaaDoorXSendL1
noncomputable section
namespace Go.AE.F
open Go.AE Go.Proofs
set_option maxRecDepth 100000
def impl_isCols.con (N : Nat) : Con := { modes := [.v], ptrs := [false], fn := fn1 (.int .i64) .imm (impl_isCols N) (fun r => [⟨.bool, .imm, r⟩]) (fun r => []) }
def impl_isCols.cfg (N : Nat) : Cfg := { ty := tys, keep := [4], flt := [], elm := elm0, live := [], ord := [], con := [((47, [.one, .one, .one]), impl_within.con N)], loops := [], joins := [] }
theorem impl_isCols.cons (N : Nat) : ConsOk Tryd.prog (impl_isCols.cfg N).con := (consOk_cons (hb47) (impl_within.ok N) (impl_within.det N) consOk_nil)
theorem impl_isCols.ls (N : Nat) : LoopsOk Tryd.prog (impl_isCols.cfg N) (fnBody Tryd.f46) := loopsL (l := []) (by kernel_rfl) trivial
theorem impl_isCols.b (N : Nat) (x0 : den (.int .i64)) : body (impl_isCols.cfg N) N Tryd.f46 [.one] [.v] [(false, .imm)] [⟨(.int .i64), .imm, x0⟩] (fun r i => some (r, i)) = bindO (impl_isCols N x0) fun r => some ([⟨.bool, .imm, r⟩], []) := by
  show _ = bindF _ _
  conv => rhs; simp only [impl_isCols, bindF_ifB, bindF_bindO, bindF_pure, bindF_none, bindF_onSum]
  kernel_rfl
theorem impl_isCols.ok (N : Nat) : ConOk Tryd.prog 46 [.one] (impl_isCols.con N) := ok1 (g := impl_isCols.cfg N) (N := N) (res := [(false, .imm)]) tys_ok (impl_isCols.cons N) mixed Tryd.func46 (impl_isCols.ls N) rfl (impl_isCols.b N)
theorem impl_isCols.det (N : Nat) : ConDet (impl_isCols.con N) := det1
def impl_size_Simpl_Cell.con (N : Nat) : Con := { modes := [.v], ptrs := [false], fn := fn1 s27 .imm (impl_size_Simpl_Cell N) (fun r => [⟨(.int .i64), .imm, r⟩]) (fun r => []) }
def impl_size_Simpl_Cell.cfg (N : Nat) : Cfg := { ty := tys, keep := [], flt := [], elm := elm0, live := [], ord := [], con := [], loops := [], joins := [] }
theorem impl_size_Simpl_Cell.cons (N : Nat) : ConsOk Tryd.prog (impl_size_Simpl_Cell.cfg N).con := consOk_nil
theorem impl_size_Simpl_Cell.ls (N : Nat) : LoopsOk Tryd.prog (impl_size_Simpl_Cell.cfg N) (fnBody Tryd.f29) := loopsL (l := []) (by kernel_rfl) trivial
theorem impl_size_Simpl_Cell.b (N : Nat) (x0 : den s27) : body (impl_size_Simpl_Cell.cfg N) N Tryd.f29 [.one] [.v] [(false, .imm)] [⟨s27, .imm, x0⟩] (fun r i => some (r, i)) = bindO (impl_size_Simpl_Cell N x0) fun r => some ([⟨(.int .i64), .imm, r⟩], []) := by
  show _ = bindF _ _
  conv => rhs; simp only [impl_size_Simpl_Cell, bindF_ifB, bindF_bindO, bindF_pure, bindF_none, bindF_onSum]
  kernel_rfl
theorem impl_size_Simpl_Cell.ok (N : Nat) : ConOk Tryd.prog 29 [.one] (impl_size_Simpl_Cell.con N) := ok1 (g := impl_size_Simpl_Cell.cfg N) (N := N) (res := [(false, .imm)]) tys_ok (impl_size_Simpl_Cell.cons N) mixed Tryd.func29 (impl_size_Simpl_Cell.ls N) rfl (impl_size_Simpl_Cell.b N)
theorem impl_size_Simpl_Cell.det (N : Nat) : ConDet (impl_size_Simpl_Cell.con N) := det1
def impl_isPoint.con (N : Nat) : Con := { modes := [.v], ptrs := [false], fn := fn1 (.int .i64) .imm (impl_isPoint N) (fun r => [⟨.bool, .imm, r⟩]) (fun r => []) }
def impl_isPoint.cfg (N : Nat) : Cfg := { ty := tys, keep := [4, 7], flt := [], elm := elm0, live := [], ord := [], con := [((47, [.one, .one, .one]), impl_within.con N)], loops := [], joins := [] }
theorem impl_isPoint.cons (N : Nat) : ConsOk Tryd.prog (impl_isPoint.cfg N).con := (consOk_cons (hb47) (impl_within.ok N) (impl_within.det N) consOk_nil)
theorem impl_isPoint.ls (N : Nat) : LoopsOk Tryd.prog (impl_isPoint.cfg N) (fnBody Tryd.f56) := loopsL (l := []) (by kernel_rfl) trivial
theorem impl_isPoint.b (N : Nat) (x0 : den (.int .i64)) : body (impl_isPoint.cfg N) N Tryd.f56 [.one] [.v] [(false, .imm)] [⟨(.int .i64), .imm, x0⟩] (fun r i => some (r, i)) = bindO (impl_isPoint N x0) fun r => some ([⟨.bool, .imm, r⟩], []) := by
  show _ = bindF _ _
  conv => rhs; simp only [impl_isPoint, bindF_ifB, bindF_bindO, bindF_pure, bindF_none, bindF_onSum]
  kernel_rfl
theorem impl_isPoint.ok (N : Nat) : ConOk Tryd.prog 56 [.one] (impl_isPoint.con N) := ok1 (g := impl_isPoint.cfg N) (N := N) (res := [(false, .imm)]) tys_ok (impl_isPoint.cons N) mixed Tryd.func56 (impl_isPoint.ls N) rfl (impl_isPoint.b N)
theorem impl_isPoint.det (N : Nat) : ConDet (impl_isPoint.con N) := det1
def impl_isControl.con (N : Nat) : Con := { modes := [.v], ptrs := [false], fn := fn1 (.int .i64) .imm (impl_isControl N) (fun r => [⟨.bool, .imm, r⟩]) (fun r => []) }
def impl_isControl.cfg (N : Nat) : Cfg := { ty := tys, keep := [], flt := [], elm := elm0, live := [], ord := [], con := [], loops := [], joins := [] }
theorem impl_isControl.cons (N : Nat) : ConsOk Tryd.prog (impl_isControl.cfg N).con := consOk_nil
theorem impl_isControl.ls (N : Nat) : LoopsOk Tryd.prog (impl_isControl.cfg N) (fnBody Tryd.f57) := loopsL (l := []) (by kernel_rfl) trivial
theorem impl_isControl.b (N : Nat) (x0 : den (.int .i64)) : body (impl_isControl.cfg N) N Tryd.f57 [.one] [.v] [(false, .imm)] [⟨(.int .i64), .imm, x0⟩] (fun r i => some (r, i)) = bindO (impl_isControl N x0) fun r => some ([⟨.bool, .imm, r⟩], []) := by
  show _ = bindF _ _
  conv => rhs; simp only [impl_isControl, bindF_ifB, bindF_bindO, bindF_pure, bindF_none, bindF_onSum]
  kernel_rfl
theorem impl_isControl.ok (N : Nat) : ConOk Tryd.prog 57 [.one] (impl_isControl.con N) := ok1 (g := impl_isControl.cfg N) (N := N) (res := [(false, .imm)]) tys_ok (impl_isControl.cons N) mixed Tryd.func57 (impl_isControl.ls N) rfl (impl_isControl.b N)
theorem impl_isControl.det (N : Nat) : ConDet (impl_isControl.con N) := det1
def impl_WidthOf.sk6 : Skel := ⟨.pv (.int .i64) :: (dd 19 (.ov 50 [] :: (.pv (.int .i64) :: (.pv (.int .i64) :: (dd 10 []))))), [⟨50, s80, (.own .imm), false, false⟩]⟩
def impl_WidthOf.xs6 : List XS := [⟨.exit 0, [], ⟨dd 33 [], []⟩⟩, ⟨.ret, [2], ⟨dd 2 (.pv (.int .i64) :: (dd 30 [])), []⟩⟩]
def impl_WidthOf.con (N : Nat) : Con := { modes := [.v], ptrs := [false], fn := fn1 (.int .i64) .imm (impl_WidthOf N) (fun r => [⟨(.int .i64), .imm, r⟩]) (fun r => []) }
def impl_WidthOf.cfg (N : Nat) : Cfg := { ty := tys, keep := [6, 10, 13, 31], flt := [], elm := elm0, live := [(6, [0, 20, 21, 22])], ord := [], con := [((56, [.one]), impl_isPoint.con N), ((47, [.one, .one, .one]), impl_within.con N), ((57, [.one]), impl_isControl.con N)], loops := [(6, loopCon N impl_WidthOf.sk6 impl_WidthOf.xs6 (fun {R} => impl_WidthOf.l6 (R := R) N))], joins := [] }
theorem impl_WidthOf.cons (N : Nat) : ConsOk Tryd.prog (impl_WidthOf.cfg N).con := (consOk_cons (hb56) (impl_isPoint.ok N) (impl_isPoint.det N) (consOk_cons (hb47) (impl_within.ok N) (impl_within.det N) (consOk_cons (hb57) (impl_isControl.ok N) (impl_isControl.det N) consOk_nil)))
theorem impl_WidthOf.h6 {R : Type} (N : Nat) (d : impl_WidthOf.sk6.D) (kn : impl_WidthOf.sk6.D → Option R) (kx : XD impl_WidthOf.xs6 → Option R) : roundK (impl_WidthOf.cfg N) N (nthLoop (fnBody Tryd.f58) 0) impl_WidthOf.sk6 impl_WidthOf.xs6 d kn kx = impl_WidthOf.l6 N d kn kx := by kernel_rfl
theorem impl_WidthOf.i6 (N : Nat) : LoopsOk Tryd.prog (impl_WidthOf.cfg N) (nthLoop (fnBody Tryd.f58) 0) := loopsL (l := []) (by kernel_rfl) trivial
theorem impl_WidthOf.o6 (N : Nat) : LoopOk Tryd.prog (nthLoop (fnBody Tryd.f58) 0) (loopCon N impl_WidthOf.sk6 impl_WidthOf.xs6 (fun {R} => impl_WidthOf.l6 (R := R) N)) := loop_ok (g := impl_WidthOf.cfg N) tys_ok (impl_WidthOf.cons N) mixed (impl_WidthOf.i6 N) (fun d kn kx => impl_WidthOf.h6 N d kn kx)
theorem impl_WidthOf.ls (N : Nat) : LoopsOk Tryd.prog (impl_WidthOf.cfg N) (fnBody Tryd.f58) := loopsL (l := [nthLoop (fnBody Tryd.f58) 0]) (by kernel_rfl) ⟨loopOne (L0 := loopCon N impl_WidthOf.sk6 impl_WidthOf.xs6 (fun {R} => impl_WidthOf.l6 (R := R) N)) (id := 6) (by kernel_rfl) (by kernel_rfl) (impl_WidthOf.o6 N), trivial⟩
theorem impl_WidthOf.q6 {R R' : Type} {N n : Nat} {d} {k} {g : R → Option R'} : bindF (loopP (impl_WidthOf.l6 N) n d k) g = loopP (impl_WidthOf.l6 N) n d fun e => bindF (k e) g := bindF_loopP (fun d kn kx => by simp only [impl_WidthOf.l6, bindF_ifB, bindF_bindO, bindF_pure, bindF_none, bindF_onSum]) n d k
theorem impl_WidthOf.b (N : Nat) (x0 : den (.int .i64)) : body (impl_WidthOf.cfg N) N Tryd.f58 [.one] [.v] [(false, .imm)] [⟨(.int .i64), .imm, x0⟩] (fun r i => some (r, i)) = bindO (impl_WidthOf N x0) fun r => some ([⟨(.int .i64), .imm, r⟩], []) := by
  show _ = bindF _ _
  conv => rhs; simp only [impl_WidthOf, bindF_ifB, bindF_bindO, bindF_pure, bindF_none, bindF_onSum, impl_WidthOf.q6]
  kernel_rfl
theorem impl_WidthOf.ok (N : Nat) : ConOk Tryd.prog 58 [.one] (impl_WidthOf.con N) := ok1 (g := impl_WidthOf.cfg N) (N := N) (res := [(false, .imm)]) tys_ok (impl_WidthOf.cons N) mixed Tryd.func58 (impl_WidthOf.ls N) rfl (impl_WidthOf.b N)
theorem impl_WidthOf.det (N : Nat) : ConDet (impl_WidthOf.con N) := det1
def impl_cellRight.sk2 : Skel := ⟨dd 1 (.ptr 50 [] :: (dd 4 (.pv s36 :: (.pv (.int .i64) :: (.pv (.int .i64) :: (dd 29 [])))))), [⟨50, s37, .imm, true, false⟩]⟩
def impl_cellRight.xs2 : List XS := [⟨.exit 0, [1], ⟨dd 1 (.ptr 50 [] :: (dd 36 [])), [⟨50, s37, .imm, true, false⟩]⟩⟩, ⟨.ret, [2], ⟨dd 2 (.pv .bool :: (dd 35 [])), []⟩⟩]
def impl_cellRight.con (N : Nat) : Con := { modes := [.v], ptrs := [false], fn := fn1 s37 .imm (impl_cellRight N) (fun r => [⟨.bool, .imm, r⟩]) (fun r => []) }
def impl_cellRight.cfg (N : Nat) : Cfg := { ty := tys, keep := [14, 18, 24, 36], flt := [], elm := elm0, live := [(2, [1, 6, 7, 8])], ord := [], con := [((56, [.one]), impl_isPoint.con N), ((57, [.one]), impl_isControl.con N), ((58, [.one]), impl_WidthOf.con N), ((47, [.one, .one, .one]), impl_within.con N)], loops := [(2, loopCon N impl_cellRight.sk2 impl_cellRight.xs2 (fun {R} => impl_cellRight.l2 (R := R) N))], joins := [] }
theorem impl_cellRight.cons (N : Nat) : ConsOk Tryd.prog (impl_cellRight.cfg N).con := (consOk_cons (hb56) (impl_isPoint.ok N) (impl_isPoint.det N) (consOk_cons (hb57) (impl_isControl.ok N) (impl_isControl.det N) (consOk_cons (hb58) (impl_WidthOf.ok N) (impl_WidthOf.det N) (consOk_cons (hb47) (impl_within.ok N) (impl_within.det N) consOk_nil))))
theorem impl_cellRight.h2 {R : Type} (N : Nat) (d : impl_cellRight.sk2.D) (kn : impl_cellRight.sk2.D → Option R) (kx : XD impl_cellRight.xs2 → Option R) : roundK (impl_cellRight.cfg N) N (nthLoop (fnBody Tryd.f48) 0) impl_cellRight.sk2 impl_cellRight.xs2 d kn kx = impl_cellRight.l2 N d kn kx := by kernel_rfl
theorem impl_cellRight.i2 (N : Nat) : LoopsOk Tryd.prog (impl_cellRight.cfg N) (nthLoop (fnBody Tryd.f48) 0) := loopsL (l := []) (by kernel_rfl) trivial
theorem impl_cellRight.o2 (N : Nat) : LoopOk Tryd.prog (nthLoop (fnBody Tryd.f48) 0) (loopCon N impl_cellRight.sk2 impl_cellRight.xs2 (fun {R} => impl_cellRight.l2 (R := R) N)) := loop_ok (g := impl_cellRight.cfg N) tys_ok (impl_cellRight.cons N) mixed (impl_cellRight.i2 N) (fun d kn kx => impl_cellRight.h2 N d kn kx)
theorem impl_cellRight.ls (N : Nat) : LoopsOk Tryd.prog (impl_cellRight.cfg N) (fnBody Tryd.f48) := loopsL (l := [nthLoop (fnBody Tryd.f48) 0]) (by kernel_rfl) ⟨loopOne (L0 := loopCon N impl_cellRight.sk2 impl_cellRight.xs2 (fun {R} => impl_cellRight.l2 (R := R) N)) (id := 2) (by kernel_rfl) (by kernel_rfl) (impl_cellRight.o2 N), trivial⟩
theorem impl_cellRight.q2 {R R' : Type} {N n : Nat} {d} {k} {g : R → Option R'} : bindF (loopP (impl_cellRight.l2 N) n d k) g = loopP (impl_cellRight.l2 N) n d fun e => bindF (k e) g := bindF_loopP (fun d kn kx => by simp only [impl_cellRight.l2, bindF_ifB, bindF_bindO, bindF_pure, bindF_none, bindF_onSum]) n d k
theorem impl_cellRight.b (N : Nat) (x0 : den s37) : body (impl_cellRight.cfg N) N Tryd.f48 [.one] [.v] [(false, .imm)] [⟨s37, .imm, x0⟩] (fun r i => some (r, i)) = bindO (impl_cellRight N x0) fun r => some ([⟨.bool, .imm, r⟩], []) := by
  show _ = bindF _ _
  conv => rhs; simp only [impl_cellRight, bindF_ifB, bindF_bindO, bindF_pure, bindF_none, bindF_onSum, impl_cellRight.q2]
  kernel_rfl
theorem impl_cellRight.ok (N : Nat) : ConOk Tryd.prog 48 [.one] (impl_cellRight.con N) := ok1 (g := impl_cellRight.cfg N) (N := N) (res := [(false, .imm)]) tys_ok (impl_cellRight.cons N) mixed Tryd.func48 (impl_cellRight.ls N) rfl (impl_cellRight.b N)
theorem impl_cellRight.det (N : Nat) : ConDet (impl_cellRight.con N) := det1
def impl_Cell_isWide.con (N : Nat) : Con := { modes := [.rd], ptrs := [false], fn := fn1 s37 .imm (impl_Cell_isWide N) (fun r => [⟨.bool, .imm, r⟩]) (fun r => []) }
def impl_Cell_isWide.cfg (N : Nat) : Cfg := { ty := tys, keep := [16], flt := [], elm := elm0, live := [], ord := [], con := [((58, [.one]), impl_WidthOf.con N)], loops := [], joins := [] }
theorem impl_Cell_isWide.cons (N : Nat) : ConsOk Tryd.prog (impl_Cell_isWide.cfg N).con := (consOk_cons (hb58) (impl_WidthOf.ok N) (impl_WidthOf.det N) consOk_nil)
theorem impl_Cell_isWide.ls (N : Nat) : LoopsOk Tryd.prog (impl_Cell_isWide.cfg N) (fnBody Tryd.f49) := loopsL (l := []) (by kernel_rfl) trivial
theorem impl_Cell_isWide.b (N : Nat) (x0 : den s37) : body (impl_Cell_isWide.cfg N) N Tryd.f49 [.one] [.rd] [(false, .imm)] [⟨s37, .imm, x0⟩] (fun r i => some (r, i)) = bindO (impl_Cell_isWide N x0) fun r => some ([⟨.bool, .imm, r⟩], []) := by
  show _ = bindF _ _
  conv => rhs; simp only [impl_Cell_isWide, bindF_ifB, bindF_bindO, bindF_pure, bindF_none, bindF_onSum]
  kernel_rfl
theorem impl_Cell_isWide.ok (N : Nat) : ConOk Tryd.prog 49 [.one] (impl_Cell_isWide.con N) := ok1 (g := impl_Cell_isWide.cfg N) (N := N) (res := [(false, .imm)]) tys_ok (impl_Cell_isWide.cons N) mixed Tryd.func49 (impl_Cell_isWide.ls N) rfl (impl_Cell_isWide.b N)
theorem impl_Cell_isWide.det (N : Nat) : ConDet (impl_Cell_isWide.con N) := det1
def impl_Cell_isEmpty.con (N : Nat) : Con := { modes := [.rd], ptrs := [false], fn := fn1 s37 .imm (impl_Cell_isEmpty N) (fun r => [⟨.bool, .imm, r⟩]) (fun r => []) }
def impl_Cell_isEmpty.cfg (N : Nat) : Cfg := { ty := tys, keep := [], flt := [], elm := elm0, live := [], ord := [], con := [], loops := [], joins := [] }
theorem impl_Cell_isEmpty.cons (N : Nat) : ConsOk Tryd.prog (impl_Cell_isEmpty.cfg N).con := consOk_nil
theorem impl_Cell_isEmpty.ls (N : Nat) : LoopsOk Tryd.prog (impl_Cell_isEmpty.cfg N) (fnBody Tryd.f31) := loopsL (l := []) (by kernel_rfl) trivial
theorem impl_Cell_isEmpty.b (N : Nat) (x0 : den s37) : body (impl_Cell_isEmpty.cfg N) N Tryd.f31 [.one] [.rd] [(false, .imm)] [⟨s37, .imm, x0⟩] (fun r i => some (r, i)) = bindO (impl_Cell_isEmpty N x0) fun r => some ([⟨.bool, .imm, r⟩], []) := by
  show _ = bindF _ _
  conv => rhs; simp only [impl_Cell_isEmpty, bindF_ifB, bindF_bindO, bindF_pure, bindF_none, bindF_onSum]
  kernel_rfl
theorem impl_Cell_isEmpty.ok (N : Nat) : ConOk Tryd.prog 31 [.one] (impl_Cell_isEmpty.con N) := ok1 (g := impl_Cell_isEmpty.cfg N) (N := N) (res := [(false, .imm)]) tys_ok (impl_Cell_isEmpty.cons N) mixed Tryd.func31 (impl_Cell_isEmpty.ls N) rfl (impl_Cell_isEmpty.b N)
theorem impl_Cell_isEmpty.det (N : Nat) : ConDet (impl_Cell_isEmpty.con N) := det1
def impl_GridRight.sk4 : Skel := ⟨dd 1 (.ptr 50 [] :: (dd 61 (.pv s27 :: (.pv (.int .i64) :: (.pv (.int .i64) :: (dd 37 [])))))), [⟨50, s28, .imm, true, false⟩]⟩
def impl_GridRight.xs4 : List XS := [⟨.exit 0, [], ⟨dd 103 [], []⟩⟩, ⟨.ret, [2], ⟨dd 2 (.pv .bool :: (dd 100 [])), []⟩⟩]
def impl_GridRight.con (N : Nat) : Con := { modes := [.v], ptrs := [false], fn := fn1 s28 .imm (impl_GridRight N) (fun r => [⟨.bool, .imm, r⟩]) (fun r => []) }
def impl_GridRight.cfg (N : Nat) : Cfg := { ty := tys, keep := [7, 12, 18, 32, 41, 59, 71, 73, 87], flt := [], elm := elm0, live := [(4, [1, 63, 64, 65])], ord := [(1, [0, 1, 2, 3, 4, 5, 6, 7, 8, 9, 10, 11, 12, 14, 15, 16, 17, 18, 13, 19, 20, 21, 22, 23, 24, 25, 26, 27, 28, 29, 30, 31, 32, 33, 34, 35, 36, 37, 38, 39, 40, 41, 42, 43, 44, 45, 46, 47, 48, 49, 50, 51, 52, 53, 54, 55, 56]), (9, [0, 1, 2, 3, 4, 5, 6, 7, 8, 9, 10, 11, 12, 13, 14, 15, 16, 17, 18, 19, 20, 21, 22, 23, 24, 25, 26])], con := [((45, [.one]), impl_isRows.con N), ((46, [.one]), impl_isCols.con N), ((29, [.one]), impl_size_Simpl_Cell.con N), ((47, [.one, .one, .one]), impl_within.con N), ((48, [.one]), impl_cellRight.con N), ((49, [.one]), impl_Cell_isWide.con N), ((31, [.one]), impl_Cell_isEmpty.con N)], loops := [(4, loopCon N impl_GridRight.sk4 impl_GridRight.xs4 (fun {R} => impl_GridRight.l4 (R := R) N))], joins := [(11, [⟨.normal, [1, 63, 64, 65], ⟨dd 1 (.ptr 50 [] :: (dd 61 (.pv s27 :: (.pv (.int .i64) :: (.pv (.int .i64) :: (dd 37 [])))))), [⟨50, s28, .imm, true, false⟩]⟩⟩, ⟨.ret, [2], ⟨dd 2 (.pv .bool :: (dd 100 [])), []⟩⟩])] }
theorem impl_GridRight.cons (N : Nat) : ConsOk Tryd.prog (impl_GridRight.cfg N).con := (consOk_cons (hb45) (impl_isRows.ok N) (impl_isRows.det N) (consOk_cons (hb46) (impl_isCols.ok N) (impl_isCols.det N) (consOk_cons (hb29) (impl_size_Simpl_Cell.ok N) (impl_size_Simpl_Cell.det N) (consOk_cons (hb47) (impl_within.ok N) (impl_within.det N) (consOk_cons (hb48) (impl_cellRight.ok N) (impl_cellRight.det N) (consOk_cons (hb49) (impl_Cell_isWide.ok N) (impl_Cell_isWide.det N) (consOk_cons (hb31) (impl_Cell_isEmpty.ok N) (impl_Cell_isEmpty.det N) consOk_nil)))))))
theorem impl_GridRight.h4 {R : Type} (N : Nat) (d : impl_GridRight.sk4.D) (kn : impl_GridRight.sk4.D → Option R) (kx : XD impl_GridRight.xs4 → Option R) : roundK (impl_GridRight.cfg N) N (nthLoop (fnBody Tryd.f28) 0) impl_GridRight.sk4 impl_GridRight.xs4 d kn kx = impl_GridRight.l4 N d kn kx := by kernel_rfl
theorem impl_GridRight.i4 (N : Nat) : LoopsOk Tryd.prog (impl_GridRight.cfg N) (nthLoop (fnBody Tryd.f28) 0) := loopsL (l := []) (by kernel_rfl) trivial
theorem impl_GridRight.o4 (N : Nat) : LoopOk Tryd.prog (nthLoop (fnBody Tryd.f28) 0) (loopCon N impl_GridRight.sk4 impl_GridRight.xs4 (fun {R} => impl_GridRight.l4 (R := R) N)) := loop_ok (g := impl_GridRight.cfg N) tys_ok (impl_GridRight.cons N) mixed (impl_GridRight.i4 N) (fun d kn kx => impl_GridRight.h4 N d kn kx)
theorem impl_GridRight.ls (N : Nat) : LoopsOk Tryd.prog (impl_GridRight.cfg N) (fnBody Tryd.f28) := loopsL (l := [nthLoop (fnBody Tryd.f28) 0]) (by kernel_rfl) ⟨loopOne (L0 := loopCon N impl_GridRight.sk4 impl_GridRight.xs4 (fun {R} => impl_GridRight.l4 (R := R) N)) (id := 4) (by kernel_rfl) (by kernel_rfl) (impl_GridRight.o4 N), trivial⟩
theorem impl_GridRight.q4 {R R' : Type} {N n : Nat} {d} {k} {g : R → Option R'} : bindF (loopP (impl_GridRight.l4 N) n d k) g = loopP (impl_GridRight.l4 N) n d fun e => bindF (k e) g := bindF_loopP (fun d kn kx => by simp only [impl_GridRight.l4, bindF_ifB, bindF_bindO, bindF_pure, bindF_none, bindF_onSum]) n d k
theorem impl_GridRight.b (N : Nat) (x0 : den s28) : body (impl_GridRight.cfg N) N Tryd.f28 [.one] [.v] [(false, .imm)] [⟨s28, .imm, x0⟩] (fun r i => some (r, i)) = bindO (impl_GridRight N x0) fun r => some ([⟨.bool, .imm, r⟩], []) := by
  show _ = bindF _ _
  conv => rhs; simp only [impl_GridRight, bindF_ifB, bindF_bindO, bindF_pure, bindF_none, bindF_onSum, impl_GridRight.q4]
  kernel_rfl
theorem impl_GridRight.ok (N : Nat) : ConOk Tryd.prog 28 [.one] (impl_GridRight.con N) := ok1 (g := impl_GridRight.cfg N) (N := N) (res := [(false, .imm)]) tys_ok (impl_GridRight.cons N) mixed Tryd.func28 (impl_GridRight.ls N) rfl (impl_GridRight.b N)
theorem impl_GridRight.det (N : Nat) : ConDet (impl_GridRight.con N) := det1
def impl_Grid_isRightHalf.con (N : Nat) : Con := { modes := [.rd, .v], ptrs := [false], fn := fn2 s28 .imm (.int .i64) .imm (impl_Grid_isRightHalf N) (fun r => [⟨.bool, .imm, r⟩]) (fun r => []) }
def impl_Grid_isRightHalf.cfg (N : Nat) : Cfg := { ty := tys, keep := [20], flt := [], elm := elm0, live := [], ord := [], con := [((49, [.one]), impl_Cell_isWide.con N)], loops := [], joins := [] }
theorem impl_Grid_isRightHalf.cons (N : Nat) : ConsOk Tryd.prog (impl_Grid_isRightHalf.cfg N).con := (consOk_cons (hb49) (impl_Cell_isWide.ok N) (impl_Cell_isWide.det N) consOk_nil)
theorem impl_Grid_isRightHalf.ls (N : Nat) : LoopsOk Tryd.prog (impl_Grid_isRightHalf.cfg N) (fnBody Tryd.f30) := loopsL (l := []) (by kernel_rfl) trivial
theorem impl_Grid_isRightHalf.b (N : Nat) (x0 : den s28) (x1 : den (.int .i64)) : body (impl_Grid_isRightHalf.cfg N) N Tryd.f30 [.one, .one] [.rd, .v] [(false, .imm)] [⟨s28, .imm, x0⟩, ⟨(.int .i64), .imm, x1⟩] (fun r i => some (r, i)) = bindO (impl_Grid_isRightHalf N x0 x1) fun r => some ([⟨.bool, .imm, r⟩], []) := by
  show _ = bindF _ _
  conv => rhs; simp only [impl_Grid_isRightHalf, bindF_ifB, bindF_bindO, bindF_pure, bindF_none, bindF_onSum]
  kernel_rfl
theorem impl_Grid_isRightHalf.ok (N : Nat) : ConOk Tryd.prog 30 [.one, .one] (impl_Grid_isRightHalf.con N) := ok2 (g := impl_Grid_isRightHalf.cfg N) (N := N) (res := [(false, .imm)]) tys_ok (impl_Grid_isRightHalf.cons N) mixed Tryd.func30 (impl_Grid_isRightHalf.ls N) rfl (impl_Grid_isRightHalf.b N)
theorem impl_Grid_isRightHalf.det (N : Nat) : ConDet (impl_Grid_isRightHalf.con N) := det2
def impl_FlatRight.sk5 : Skel := ⟨dd 1 (.ptr 50 [] :: (dd 1 (.pv .bool :: (dd 16 (.pv (.int .i64) :: (.pv (.int .i64) :: (dd 26 []))))))), [⟨50, s28, .imm, true, false⟩]⟩
def impl_FlatRight.xs5 : List XS := [⟨.exit 0, [], ⟨dd 48 [], []⟩⟩, ⟨.ret, [2], ⟨dd 2 (.pv .bool :: (dd 45 [])), []⟩⟩]
def impl_FlatRight.con (N : Nat) : Con := { modes := [.v], ptrs := [false], fn := fn1 s28 .imm (impl_FlatRight N) (fun r => [⟨.bool, .imm, r⟩]) (fun r => []) }
def impl_FlatRight.cfg (N : Nat) : Cfg := { ty := tys, keep := [7, 20, 35, 38], flt := [], elm := elm0, live := [(5, [1, 3, 20, 21])], ord := [], con := [((28, [.one]), impl_GridRight.con N), ((29, [.one]), impl_size_Simpl_Cell.con N), ((30, [.one, .one]), impl_Grid_isRightHalf.con N), ((31, [.one]), impl_Cell_isEmpty.con N)], loops := [(5, loopCon N impl_FlatRight.sk5 impl_FlatRight.xs5 (fun {R} => impl_FlatRight.l5 (R := R) N))], joins := [(17, [⟨.normal, [1, 3, 20, 21], ⟨dd 1 (.ptr 50 [] :: (dd 1 (.pv .bool :: (dd 16 (.pv (.int .i64) :: (.pv (.int .i64) :: (dd 26 []))))))), [⟨50, s28, .imm, true, false⟩]⟩⟩, ⟨.ret, [2], ⟨dd 2 (.pv .bool :: (dd 45 [])), []⟩⟩])] }
theorem impl_FlatRight.cons (N : Nat) : ConsOk Tryd.prog (impl_FlatRight.cfg N).con := (consOk_cons (hb28) (impl_GridRight.ok N) (impl_GridRight.det N) (consOk_cons (hb29) (impl_size_Simpl_Cell.ok N) (impl_size_Simpl_Cell.det N) (consOk_cons (hb30) (impl_Grid_isRightHalf.ok N) (impl_Grid_isRightHalf.det N) (consOk_cons (hb31) (impl_Cell_isEmpty.ok N) (impl_Cell_isEmpty.det N) consOk_nil))))
theorem impl_FlatRight.h5 {R : Type} (N : Nat) (d : impl_FlatRight.sk5.D) (kn : impl_FlatRight.sk5.D → Option R) (kx : XD impl_FlatRight.xs5 → Option R) : roundK (impl_FlatRight.cfg N) N (nthLoop (fnBody Tryd.f15) 0) impl_FlatRight.sk5 impl_FlatRight.xs5 d kn kx = impl_FlatRight.l5 N d kn kx := by kernel_rfl
theorem impl_FlatRight.i5 (N : Nat) : LoopsOk Tryd.prog (impl_FlatRight.cfg N) (nthLoop (fnBody Tryd.f15) 0) := loopsL (l := []) (by kernel_rfl) trivial
theorem impl_FlatRight.o5 (N : Nat) : LoopOk Tryd.prog (nthLoop (fnBody Tryd.f15) 0) (loopCon N impl_FlatRight.sk5 impl_FlatRight.xs5 (fun {R} => impl_FlatRight.l5 (R := R) N)) := loop_ok (g := impl_FlatRight.cfg N) tys_ok (impl_FlatRight.cons N) mixed (impl_FlatRight.i5 N) (fun d kn kx => impl_FlatRight.h5 N d kn kx)
theorem impl_FlatRight.ls (N : Nat) : LoopsOk Tryd.prog (impl_FlatRight.cfg N) (fnBody Tryd.f15) := loopsL (l := [nthLoop (fnBody Tryd.f15) 0]) (by kernel_rfl) ⟨loopOne (L0 := loopCon N impl_FlatRight.sk5 impl_FlatRight.xs5 (fun {R} => impl_FlatRight.l5 (R := R) N)) (id := 5) (by kernel_rfl) (by kernel_rfl) (impl_FlatRight.o5 N), trivial⟩
theorem impl_FlatRight.q5 {R R' : Type} {N n : Nat} {d} {k} {g : R → Option R'} : bindF (loopP (impl_FlatRight.l5 N) n d k) g = loopP (impl_FlatRight.l5 N) n d fun e => bindF (k e) g := bindF_loopP (fun d kn kx => by simp only [impl_FlatRight.l5, bindF_ifB, bindF_bindO, bindF_pure, bindF_none, bindF_onSum]) n d k
theorem impl_FlatRight.b (N : Nat) (x0 : den s28) : body (impl_FlatRight.cfg N) N Tryd.f15 [.one] [.v] [(false, .imm)] [⟨s28, .imm, x0⟩] (fun r i => some (r, i)) = bindO (impl_FlatRight N x0) fun r => some ([⟨.bool, .imm, r⟩], []) := by
  show _ = bindF _ _
  conv => rhs; simp only [impl_FlatRight, bindF_ifB, bindF_bindO, bindF_pure, bindF_none, bindF_onSum, impl_FlatRight.q5]
  kernel_rfl
theorem impl_FlatRight.ok (N : Nat) : ConOk Tryd.prog 15 [.one] (impl_FlatRight.con N) := ok1 (g := impl_FlatRight.cfg N) (N := N) (res := [(false, .imm)]) tys_ok (impl_FlatRight.cons N) mixed Tryd.func15 (impl_FlatRight.ls N) rfl (impl_FlatRight.b N)
theorem impl_FlatRight.det (N : Nat) : ConDet (impl_FlatRight.con N) := det1
def slices_Equal_Sint64_int64.sk4 : Skel := ⟨.pv s36 :: (.pv s36 :: (dd 10 (.pv (.int .i64) :: (.pv (.int .i64) :: (dd 12 []))))), []⟩
def slices_Equal_Sint64_int64.xs4 : List XS := [⟨.exit 0, [], ⟨dd 26 [], []⟩⟩, ⟨.ret, [4], ⟨dd 4 (.pv .bool :: (dd 21 [])), []⟩⟩]
def slices_Equal_Sint64_int64.con (N : Nat) : Con := { modes := [.v, .v], ptrs := [false], fn := fn2 s36 .imm s36 .imm (slices_Equal_Sint64_int64 N) (fun r => [⟨.bool, .imm, r⟩]) (fun r => []) }
def slices_Equal_Sint64_int64.cfg (N : Nat) : Cfg := { ty := tys, keep := [], flt := [], elm := elm0, live := [(4, [0, 1, 12, 13])], ord := [(6, [0, 1, 2, 3, 4, 5, 6, 7, 8])], con := [], loops := [(4, loopCon N slices_Equal_Sint64_int64.sk4 slices_Equal_Sint64_int64.xs4 (fun {R} => slices_Equal_Sint64_int64.l4 (R := R) N))], joins := [] }
theorem slices_Equal_Sint64_int64.cons (N : Nat) : ConsOk Tryd.prog (slices_Equal_Sint64_int64.cfg N).con := consOk_nil
theorem slices_Equal_Sint64_int64.h4 {R : Type} (N : Nat) (d : slices_Equal_Sint64_int64.sk4.D) (kn : slices_Equal_Sint64_int64.sk4.D → Option R) (kx : XD slices_Equal_Sint64_int64.xs4 → Option R) : roundK (slices_Equal_Sint64_int64.cfg N) N (nthLoop (fnBody Tryd.f34) 0) slices_Equal_Sint64_int64.sk4 slices_Equal_Sint64_int64.xs4 d kn kx = slices_Equal_Sint64_int64.l4 N d kn kx := by kernel_rfl
theorem slices_Equal_Sint64_int64.i4 (N : Nat) : LoopsOk Tryd.prog (slices_Equal_Sint64_int64.cfg N) (nthLoop (fnBody Tryd.f34) 0) := loopsL (l := []) (by kernel_rfl) trivial
theorem slices_Equal_Sint64_int64.o4 (N : Nat) : LoopOk Tryd.prog (nthLoop (fnBody Tryd.f34) 0) (loopCon N slices_Equal_Sint64_int64.sk4 slices_Equal_Sint64_int64.xs4 (fun {R} => slices_Equal_Sint64_int64.l4 (R := R) N)) := loop_ok (g := slices_Equal_Sint64_int64.cfg N) tys_ok (slices_Equal_Sint64_int64.cons N) mixed (slices_Equal_Sint64_int64.i4 N) (fun d kn kx => slices_Equal_Sint64_int64.h4 N d kn kx)
theorem slices_Equal_Sint64_int64.ls (N : Nat) : LoopsOk Tryd.prog (slices_Equal_Sint64_int64.cfg N) (fnBody Tryd.f34) := loopsL (l := [nthLoop (fnBody Tryd.f34) 0]) (by kernel_rfl) ⟨loopOne (L0 := loopCon N slices_Equal_Sint64_int64.sk4 slices_Equal_Sint64_int64.xs4 (fun {R} => slices_Equal_Sint64_int64.l4 (R := R) N)) (id := 4) (by kernel_rfl) (by kernel_rfl) (slices_Equal_Sint64_int64.o4 N), trivial⟩
theorem slices_Equal_Sint64_int64.q4 {R R' : Type} {N n : Nat} {d} {k} {g : R → Option R'} : bindF (loopP (slices_Equal_Sint64_int64.l4 N) n d k) g = loopP (slices_Equal_Sint64_int64.l4 N) n d fun e => bindF (k e) g := bindF_loopP (fun d kn kx => by simp only [slices_Equal_Sint64_int64.l4, bindF_ifB, bindF_bindO, bindF_pure, bindF_none, bindF_onSum]) n d k
theorem slices_Equal_Sint64_int64.b (N : Nat) (x0 : den s36) (x1 : den s36) : body (slices_Equal_Sint64_int64.cfg N) N Tryd.f34 [.one, .one] [.v, .v] [(false, .imm)] [⟨s36, .imm, x0⟩, ⟨s36, .imm, x1⟩] (fun r i => some (r, i)) = bindO (slices_Equal_Sint64_int64 N x0 x1) fun r => some ([⟨.bool, .imm, r⟩], []) := by
  show _ = bindF _ _
  conv => rhs; simp only [slices_Equal_Sint64_int64, bindF_ifB, bindF_bindO, bindF_pure, bindF_none, bindF_onSum, slices_Equal_Sint64_int64.q4]
  kernel_rfl
theorem slices_Equal_Sint64_int64.ok (N : Nat) : ConOk Tryd.prog 34 [.one, .one] (slices_Equal_Sint64_int64.con N) := ok2 (g := slices_Equal_Sint64_int64.cfg N) (N := N) (res := [(false, .imm)]) tys_ok (slices_Equal_Sint64_int64.cons N) mixed Tryd.func34 (slices_Equal_Sint64_int64.ls N) rfl (slices_Equal_Sint64_int64.b N)
theorem slices_Equal_Sint64_int64.det (N : Nat) : ConDet (slices_Equal_Sint64_int64.con N) := det2
end Go.AE.F
end
