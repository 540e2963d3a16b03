/- The printed functions are what the program comes to: contracts. -/
import Derived.Test.YthiefncabaphpaaXMachineStepsL2
noncomputable section
namespace Go.AE.F
open Go.AE Go.Proofs
set_option maxRecDepth 100000
def spec_l12Op.con (N : Nat) : Con := { modes := [.v, .v, .v], ptrs := [false, false], fn := fn3 (.int .i64) .imm (.int .i64) .imm (.int .i64) .imm (spec_l12Op N) (fun r => [⟨(.int .i64), .imm, r.1⟩, ⟨(.int .i64), .imm, r.2⟩]) (fun r => []) }
def spec_l12Op.cfg (N : Nat) : Cfg := { ty := tys, keep := [], flt := [], elm := elm0, live := [], ord := [], con := [], loops := [], joins := [] }
theorem spec_l12Op.cons (N : Nat) : ConsOk Try.prog (spec_l12Op.cfg N).con := consOk_nil
theorem spec_l12Op.ls (N : Nat) : LoopsOk Try.prog (spec_l12Op.cfg N) (fnBody Try.f41) := loopsL (l := []) (by kernel_rfl) trivial
theorem spec_l12Op.b (N : Nat) (x0 : den (.int .i64)) (x1 : den (.int .i64)) (x2 : den (.int .i64)) : body (spec_l12Op.cfg N) N Try.f41 [.one, .one, .one] [.v, .v, .v] [(false, .imm), (false, .imm)] [⟨(.int .i64), .imm, x0⟩, ⟨(.int .i64), .imm, x1⟩, ⟨(.int .i64), .imm, x2⟩] (fun r i => some (r, i)) = bindO (spec_l12Op N x0 x1 x2) fun r => some ([⟨(.int .i64), .imm, r.1⟩, ⟨(.int .i64), .imm, r.2⟩], []) := by
  show _ = bindF _ _
  conv => rhs; simp only [spec_l12Op, bindF_ifB, bindF_bindO, bindF_pure, bindF_none, bindF_onSum]
  kernel_rfl
theorem spec_l12Op.ok (N : Nat) : ConOk Try.prog 41 [.one, .one, .one] (spec_l12Op.con N) := ok3 (g := spec_l12Op.cfg N) (N := N) (res := [(false, .imm), (false, .imm)]) tys_ok (spec_l12Op.cons N) mixed Try.func41 (spec_l12Op.ls N) rfl (spec_l12Op.b N)
theorem spec_l12Op.det (N : Nat) : ConDet (spec_l12Op.con N) := det3
def spec_l12Run_done.con (N : Nat) : Con := { modes := [.io, .v, .v, .v], ptrs := [false], fn := fn4 s58 (.pr .imm (.pr .imm (.pr (.own .imm) .imm))) s64 .imm (.int .i64) .imm (.int .i64) .imm (spec_l12Run_done N) (fun r => [⟨(.int .i64), .imm, r.1⟩]) (fun r => [⟨s58, (.pr .imm (.pr .imm (.pr (.own .imm) .imm))), r.2⟩]) }
def spec_l12Run_done.cfg (N : Nat) : Cfg := { ty := tys, keep := [], flt := [], elm := elm0, live := [], ord := [(7, [0, 1, 2, 3, 4, 5, 6, 8, 7, 9, 10]), (16, [0, 1, 2, 3, 4, 5, 6, 7, 8, 9, 10, 11]), (20, [0, 1, 2, 3, 4, 5, 6, 7, 8, 9, 10])], con := [((39, [.one, .one]), spec_l12Run_slot.con N), ((29, [.one, .one, .one, .one]), spec_l12Run_act.con N), ((40, [.one]), spec_l11Motion.con N), ((30, [.one, .one, .one, .one]), spec_BufMove.con N), ((25, [.one, .one]), spec_l12Run_fail.con N), ((41, [.one, .one, .one]), spec_l12Op.con N)], loops := [], joins := [] }
theorem spec_l12Run_done.cons (N : Nat) : ConsOk Try.prog (spec_l12Run_done.cfg N).con := (consOk_cons (hb39) (spec_l12Run_slot.ok N) (spec_l12Run_slot.det N) (consOk_cons (hb29) (spec_l12Run_act.ok N) (spec_l12Run_act.det N) (consOk_cons (hb40) (spec_l11Motion.ok N) (spec_l11Motion.det N) (consOk_cons (hb30) (spec_BufMove.ok N) (spec_BufMove.det N) (consOk_cons (hb25) (spec_l12Run_fail.ok N) (spec_l12Run_fail.det N) (consOk_cons (hb41) (spec_l12Op.ok N) (spec_l12Op.det N) consOk_nil))))))
theorem spec_l12Run_done.ls (N : Nat) : LoopsOk Try.prog (spec_l12Run_done.cfg N) (fnBody Try.f28) := loopsL (l := []) (by kernel_rfl) trivial
theorem spec_l12Run_done.b (N : Nat) (x0 : den s58) (x1 : den s64) (x2 : den (.int .i64)) (x3 : den (.int .i64)) : body (spec_l12Run_done.cfg N) N Try.f28 [.one, .one, .one, .one] [.io, .v, .v, .v] [(false, .imm)] [⟨s58, (.pr .imm (.pr .imm (.pr (.own .imm) .imm))), x0⟩, ⟨s64, .imm, x1⟩, ⟨(.int .i64), .imm, x2⟩, ⟨(.int .i64), .imm, x3⟩] (fun r i => some (r, i)) = bindO (spec_l12Run_done N x0 x1 x2 x3) fun r => some ([⟨(.int .i64), .imm, r.1⟩], [⟨s58, (.pr .imm (.pr .imm (.pr (.own .imm) .imm))), r.2⟩]) := by
  show _ = bindF _ _
  conv => rhs; simp only [spec_l12Run_done, bindF_ifB, bindF_bindO, bindF_pure, bindF_none, bindF_onSum]
  kernel_rfl
theorem spec_l12Run_done.ok (N : Nat) : ConOk Try.prog 28 [.one, .one, .one, .one] (spec_l12Run_done.con N) := ok4 (g := spec_l12Run_done.cfg N) (N := N) (res := [(false, .imm)]) tys_ok (spec_l12Run_done.cons N) mixed Try.func28 (spec_l12Run_done.ls N) rfl (spec_l12Run_done.b N)
theorem spec_l12Run_done.det (N : Nat) : ConDet (spec_l12Run_done.con N) := det4
def spec_l14Run.sk5 : Skel := ⟨.pv s29 :: (dd 1 (.pv (.int .i64) :: (dd 1 (.ptr 50 [] :: (dd 1 (.ptr 51 [] :: (dd 1 (.ptr 52 [] :: (.ov 53 [] :: (.pv (.int .i64) :: (.pv (.int .i64) :: (dd 251 [])))))))))))), [⟨50, s24, .imm, true, false⟩, ⟨51, s39, (.pr (.pr (.own .imm) .imm) .imm), true, false⟩, ⟨52, s58, (.pr .imm (.pr .imm (.pr (.own .imm) .imm))), true, false⟩, ⟨53, s23, (.own .imm), false, false⟩]⟩
def spec_l14Run.xs5 : List XS := [⟨.exit 0, [4, 6, 8, 10], ⟨dd 4 (.ptr 50 [] :: (dd 1 (.ptr 51 [] :: (dd 1 (.ptr 52 [] :: (dd 1 (.pv (.int .i64) :: (dd 252 [])))))))), [⟨50, s24, .imm, true, false⟩, ⟨51, s39, (.pr (.pr (.own .imm) .imm) .imm), true, false⟩, ⟨52, s58, (.pr .imm (.pr .imm (.pr (.own .imm) .imm))), true, false⟩]⟩⟩]
def spec_l14Run.con (N : Nat) : Con := { modes := [.v, .v, .v], ptrs := [false, false], fn := fn3 s29 .imm s24 .imm (.int .i64) .imm (spec_l14Run N) (fun r => [⟨s39, .imm, r.1⟩, ⟨(.int .i64), .imm, r.2⟩]) (fun r => []) }
def spec_l14Run.cfg (N : Nat) : Cfg := { ty := tys, keep := [64], flt := [22], elm := elm0, live := [(5, [0, 2, 4, 6, 8, 9, 10, 11, 30, 31, 32, 33, 34])], ord := [(1, [1, 3, 0, 2, 4, 5, 6]), (24, [0, 1, 2, 3, 4, 5, 6, 7, 8]), (26, [0, 1, 2, 3, 4, 5, 6, 7, 8, 9, 10]), (38, [0, 1, 2, 4, 5, 6, 7, 8, 9, 3, 10, 11]), (47, [0, 1, 2, 3, 4, 5, 6, 7]), (55, [0, 1, 2, 3, 4, 5, 6, 7, 8, 9, 10]), (59, [0, 2, 3, 4, 5, 1, 6, 7, 8]), (60, [0, 1, 2, 3, 4, 5, 6, 7, 8, 9, 10, 11, 13, 12, 14, 15])], con := [((24, [.one]), spec_l02Copy.con N), ((25, [.one, .one]), spec_l12Run_fail.con N), ((26, [.one]), spec_l13Takes.con N), ((27, [.one]), spec_l01Copy.con N), ((28, [.one, .one, .one, .one]), spec_l12Run_done.con N), ((29, [.one, .one, .one, .one]), spec_l12Run_act.con N), ((30, [.one, .one, .one, .one]), spec_BufMove.con N)], loops := [(5, loopCon N spec_l14Run.sk5 spec_l14Run.xs5 (fun {R} => spec_l14Run.l5 (R := R) N))], joins := [] }
theorem spec_l14Run.cons (N : Nat) : ConsOk Try.prog (spec_l14Run.cfg N).con := (consOk_cons (hb24) (spec_l02Copy.ok N) (spec_l02Copy.det N) (consOk_cons (hb25) (spec_l12Run_fail.ok N) (spec_l12Run_fail.det N) (consOk_cons (hb26) (spec_l13Takes.ok N) (spec_l13Takes.det N) (consOk_cons (hb27) (spec_l01Copy.ok N) (spec_l01Copy.det N) (consOk_cons (hb28) (spec_l12Run_done.ok N) (spec_l12Run_done.det N) (consOk_cons (hb29) (spec_l12Run_act.ok N) (spec_l12Run_act.det N) (consOk_cons (hb30) (spec_BufMove.ok N) (spec_BufMove.det N) consOk_nil)))))))
theorem spec_l14Run.h5 {R : Type} (N : Nat) (d : spec_l14Run.sk5.D) (kn : spec_l14Run.sk5.D → Option R) (kx : XD spec_l14Run.xs5 → Option R) : roundK (spec_l14Run.cfg N) N (nthLoop (fnBody Try.f15) 0) spec_l14Run.sk5 spec_l14Run.xs5 d kn kx = spec_l14Run.l5 N d kn kx := by kernel_rfl
theorem spec_l14Run.i5 (N : Nat) : LoopsOk Try.prog (spec_l14Run.cfg N) (nthLoop (fnBody Try.f15) 0) := loopsL (l := []) (by kernel_rfl) trivial
theorem spec_l14Run.o5 (N : Nat) : LoopOk Try.prog (nthLoop (fnBody Try.f15) 0) (loopCon N spec_l14Run.sk5 spec_l14Run.xs5 (fun {R} => spec_l14Run.l5 (R := R) N)) := loop_ok (g := spec_l14Run.cfg N) tys_ok (spec_l14Run.cons N) mixed (spec_l14Run.i5 N) (fun d kn kx => spec_l14Run.h5 N d kn kx)
theorem spec_l14Run.ls (N : Nat) : LoopsOk Try.prog (spec_l14Run.cfg N) (fnBody Try.f15) := loopsL (l := [nthLoop (fnBody Try.f15) 0]) (by kernel_rfl) ⟨loopOne (L0 := loopCon N spec_l14Run.sk5 spec_l14Run.xs5 (fun {R} => spec_l14Run.l5 (R := R) N)) (id := 5) (by kernel_rfl) (by kernel_rfl) (spec_l14Run.o5 N), trivial⟩
theorem spec_l14Run.q5 {R R' : Type} {N n : Nat} {d} {k} {g : R → Option R'} : bindF (loopP (spec_l14Run.l5 N) n d k) g = loopP (spec_l14Run.l5 N) n d fun e => bindF (k e) g := bindF_loopP (fun d kn kx => by simp only [spec_l14Run.l5, bindF_ifB, bindF_bindO, bindF_pure, bindF_none, bindF_onSum]) n d k
theorem spec_l14Run.b (N : Nat) (x0 : den s29) (x1 : den s24) (x2 : den (.int .i64)) : body (spec_l14Run.cfg N) N Try.f15 [.one, .one, .one] [.v, .v, .v] [(false, .imm), (false, .imm)] [⟨s29, .imm, x0⟩, ⟨s24, .imm, x1⟩, ⟨(.int .i64), .imm, x2⟩] (fun r i => some (r, i)) = bindO (spec_l14Run N x0 x1 x2) fun r => some ([⟨s39, .imm, r.1⟩, ⟨(.int .i64), .imm, r.2⟩], []) := by
  show _ = bindF _ _
  conv => rhs; simp only [spec_l14Run, bindF_ifB, bindF_bindO, bindF_pure, bindF_none, bindF_onSum, spec_l14Run.q5]
  kernel_rfl
theorem spec_l14Run.ok (N : Nat) : ConOk Try.prog 15 [.one, .one, .one] (spec_l14Run.con N) := ok3 (g := spec_l14Run.cfg N) (N := N) (res := [(false, .imm), (false, .imm)]) tys_ok (spec_l14Run.cons N) mixed Try.func15 (spec_l14Run.ls N) rfl (spec_l14Run.b N)
theorem spec_l14Run.det (N : Nat) : ConDet (spec_l14Run.con N) := det3
def spec_MachineSteps.con (N : Nat) : Con := { modes := [.v, .v, .v], ptrs := [false], fn := fn3 s29 .imm s24 .imm (.int .i64) .imm (spec_MachineSteps N) (fun r => [⟨(.int .i64), .imm, r⟩]) (fun r => []) }
def spec_MachineSteps.cfg (N : Nat) : Cfg := { ty := tys, keep := [13, 17, 32], flt := [], elm := elm0, live := [], ord := [], con := [((13, [.one]), spec_CodeRight.con N), ((14, [.one]), spec_BufRight.con N), ((15, [.one, .one, .one]), spec_l14Run.con N)], loops := [], joins := [] }
theorem spec_MachineSteps.cons (N : Nat) : ConsOk Try.prog (spec_MachineSteps.cfg N).con := (consOk_cons (hb13) (spec_CodeRight.ok N) (spec_CodeRight.det N) (consOk_cons (hb14) (spec_BufRight.ok N) (spec_BufRight.det N) (consOk_cons (hb15) (spec_l14Run.ok N) (spec_l14Run.det N) consOk_nil)))
theorem spec_MachineSteps.ls (N : Nat) : LoopsOk Try.prog (spec_MachineSteps.cfg N) (fnBody Try.f6) := loopsL (l := []) (by kernel_rfl) trivial
theorem spec_MachineSteps.b (N : Nat) (x0 : den s29) (x1 : den s24) (x2 : den (.int .i64)) : body (spec_MachineSteps.cfg N) N Try.f6 [.one, .one, .one] [.v, .v, .v] [(false, .imm)] [⟨s29, .imm, x0⟩, ⟨s24, .imm, x1⟩, ⟨(.int .i64), .imm, x2⟩] (fun r i => some (r, i)) = bindO (spec_MachineSteps N x0 x1 x2) fun r => some ([⟨(.int .i64), .imm, r⟩], []) := by
  show _ = bindF _ _
  conv => rhs; simp only [spec_MachineSteps, bindF_ifB, bindF_bindO, bindF_pure, bindF_none, bindF_onSum]
  kernel_rfl
theorem spec_MachineSteps.ok (N : Nat) : ConOk Try.prog 6 [.one, .one, .one] (spec_MachineSteps.con N) := ok3 (g := spec_MachineSteps.cfg N) (N := N) (res := [(false, .imm)]) tys_ok (spec_MachineSteps.cons N) mixed Try.func6 (spec_MachineSteps.ls N) rfl (spec_MachineSteps.b N)
theorem spec_MachineSteps.det (N : Nat) : ConDet (spec_MachineSteps.con N) := det3
def impl_size_Simpl_Op.con (N : Nat) : Con := { modes := [.v], ptrs := [false], fn := fn1 s29 .imm (impl_size_Simpl_Op N) (fun r => [⟨(.int .i64), .imm, r⟩]) (fun r => []) }
def impl_size_Simpl_Op.cfg (N : Nat) : Cfg := { ty := tys, keep := [], flt := [], elm := elm0, live := [], ord := [], con := [], loops := [], joins := [] }
theorem impl_size_Simpl_Op.cons (N : Nat) : ConsOk Try.prog (impl_size_Simpl_Op.cfg N).con := consOk_nil
theorem impl_size_Simpl_Op.ls (N : Nat) : LoopsOk Try.prog (impl_size_Simpl_Op.cfg N) (fnBody Try.f35) := loopsL (l := []) (by kernel_rfl) trivial
theorem impl_size_Simpl_Op.b (N : Nat) (x0 : den s29) : body (impl_size_Simpl_Op.cfg N) N Try.f35 [.one] [.v] [(false, .imm)] [⟨s29, .imm, x0⟩] (fun r i => some (r, i)) = bindO (impl_size_Simpl_Op N x0) fun r => some ([⟨(.int .i64), .imm, r⟩], []) := by
  show _ = bindF _ _
  conv => rhs; simp only [impl_size_Simpl_Op, bindF_ifB, bindF_bindO, bindF_pure, bindF_none, bindF_onSum]
  kernel_rfl
theorem impl_size_Simpl_Op.ok (N : Nat) : ConOk Try.prog 35 [.one] (impl_size_Simpl_Op.con N) := ok1 (g := impl_size_Simpl_Op.cfg N) (N := N) (res := [(false, .imm)]) tys_ok (impl_size_Simpl_Op.cons N) mixed Try.func35 (impl_size_Simpl_Op.ls N) rfl (impl_size_Simpl_Op.b N)
theorem impl_size_Simpl_Op.det (N : Nat) : ConDet (impl_size_Simpl_Op.con N) := det1
def impl_within.con (N : Nat) : Con := { modes := [.v, .v, .v], ptrs := [false], fn := fn3 (.int .i64) .imm (.int .i64) .imm (.int .i64) .imm (impl_within N) (fun r => [⟨.bool, .imm, r⟩]) (fun r => []) }
def impl_within.cfg (N : Nat) : Cfg := { ty := tys, keep := [], flt := [], elm := elm0, live := [], ord := [], con := [], loops := [], joins := [] }
theorem impl_within.cons (N : Nat) : ConsOk Try.prog (impl_within.cfg N).con := consOk_nil
theorem impl_within.ls (N : Nat) : LoopsOk Try.prog (impl_within.cfg N) (fnBody Try.f33) := loopsL (l := []) (by kernel_rfl) trivial
theorem impl_within.b (N : Nat) (x0 : den (.int .i64)) (x1 : den (.int .i64)) (x2 : den (.int .i64)) : body (impl_within.cfg N) N Try.f33 [.one, .one, .one] [.v, .v, .v] [(false, .imm)] [⟨(.int .i64), .imm, x0⟩, ⟨(.int .i64), .imm, x1⟩, ⟨(.int .i64), .imm, x2⟩] (fun r i => some (r, i)) = bindO (impl_within N x0 x1 x2) fun r => some ([⟨.bool, .imm, r⟩], []) := by
  show _ = bindF _ _
  conv => rhs; simp only [impl_within, bindF_ifB, bindF_bindO, bindF_pure, bindF_none, bindF_onSum]
  kernel_rfl
theorem impl_within.ok (N : Nat) : ConOk Try.prog 33 [.one, .one, .one] (impl_within.con N) := ok3 (g := impl_within.cfg N) (N := N) (res := [(false, .imm)]) tys_ok (impl_within.cons N) mixed Try.func33 (impl_within.ls N) rfl (impl_within.b N)
theorem impl_within.det (N : Nat) : ConDet (impl_within.con N) := det3
def impl_opRight.con (N : Nat) : Con := { modes := [.v, .v], ptrs := [false], fn := fn2 s43 .imm (.int .i64) .imm (impl_opRight N) (fun r => [⟨.bool, .imm, r⟩]) (fun r => []) }
def impl_opRight.cfg (N : Nat) : Cfg := { ty := tys, keep := [11, 17, 22, 29, 34, 37], flt := [], elm := elm0, live := [], ord := [], con := [((33, [.one, .one, .one]), impl_within.con N)], loops := [], joins := [] }
theorem impl_opRight.cons (N : Nat) : ConsOk Try.prog (impl_opRight.cfg N).con := (consOk_cons (hb33) (impl_within.ok N) (impl_within.det N) consOk_nil)
theorem impl_opRight.ls (N : Nat) : LoopsOk Try.prog (impl_opRight.cfg N) (fnBody Try.f69) := loopsL (l := []) (by kernel_rfl) trivial
theorem impl_opRight.b (N : Nat) (x0 : den s43) (x1 : den (.int .i64)) : body (impl_opRight.cfg N) N Try.f69 [.one, .one] [.v, .v] [(false, .imm)] [⟨s43, .imm, x0⟩, ⟨(.int .i64), .imm, x1⟩] (fun r i => some (r, i)) = bindO (impl_opRight N x0 x1) fun r => some ([⟨.bool, .imm, r⟩], []) := by
  show _ = bindF _ _
  conv => rhs; simp only [impl_opRight, bindF_ifB, bindF_bindO, bindF_pure, bindF_none, bindF_onSum]
  kernel_rfl
theorem impl_opRight.ok (N : Nat) : ConOk Try.prog 69 [.one, .one] (impl_opRight.con N) := ok2 (g := impl_opRight.cfg N) (N := N) (res := [(false, .imm)]) tys_ok (impl_opRight.cons N) mixed Try.func69 (impl_opRight.ls N) rfl (impl_opRight.b N)
theorem impl_opRight.det (N : Nat) : ConDet (impl_opRight.con N) := det2
def impl_depths_c1.con (N : Nat) : Con := { modes := [.v, .rd], ptrs := [false], fn := fn2 s43 .imm (.int .i64) .imm (impl_depths_c1 N) (fun r => [⟨.bool, .imm, r⟩]) (fun r => []) }
def impl_depths_c1.cfg (N : Nat) : Cfg := { ty := tys, keep := [6], flt := [], elm := elm0, live := [], ord := [], con := [((69, [.one, .one]), impl_opRight.con N)], loops := [], joins := [] }
theorem impl_depths_c1.cons (N : Nat) : ConsOk Try.prog (impl_depths_c1.cfg N).con := (consOk_cons (hb69) (impl_opRight.ok N) (impl_opRight.det N) consOk_nil)
theorem impl_depths_c1.ls (N : Nat) : LoopsOk Try.prog (impl_depths_c1.cfg N) (fnBody Try.f68) := loopsL (l := []) (by kernel_rfl) trivial
theorem impl_depths_c1.b (N : Nat) (x0 : den s43) (x1 : den (.int .i64)) : body (impl_depths_c1.cfg N) N Try.f68 [.one] [.v, .rd] [(false, .imm)] [⟨s43, .imm, x0⟩, ⟨(.int .i64), .imm, x1⟩] (fun r i => some (r, i)) = bindO (impl_depths_c1 N x0 x1) fun r => some ([⟨.bool, .imm, r⟩], []) := by
  show _ = bindF _ _
  conv => rhs; simp only [impl_depths_c1, bindF_ifB, bindF_bindO, bindF_pure, bindF_none, bindF_onSum]
  kernel_rfl
theorem impl_depths_c1.ok (N : Nat) : ConOk Try.prog 68 [.one] (impl_depths_c1.con N) := ok2 (g := impl_depths_c1.cfg N) (N := N) (res := [(false, .imm)]) tys_ok (impl_depths_c1.cons N) mixed Try.func68 (impl_depths_c1.ls N) rfl (impl_depths_c1.b N)
theorem impl_depths_c1.det (N : Nat) : ConDet (impl_depths_c1.con N) := det2
def slices_IndexFunc_Simpl_Op_impl_Op__impl_depths_c1.sk2 : Skel := ⟨.pv s29 :: (.fn 68 [.cr (.int .i64)] :: (dd 5 (.pv (.int .i64) :: (.pv (.int .i64) :: (dd 10 []))))), []⟩
def slices_IndexFunc_Simpl_Op_impl_Op__impl_depths_c1.xs2 : List XS := [⟨.exit 0, [], ⟨dd 19 [], []⟩⟩, ⟨.ret, [4], ⟨dd 4 (.pv (.int .i64) :: (dd 14 [])), []⟩⟩]
def slices_IndexFunc_Simpl_Op_impl_Op__impl_depths_c1.con (N : Nat) : Con := { modes := [.v, .rd], ptrs := [false], fn := fn2 s29 .imm (.int .i64) .imm (slices_IndexFunc_Simpl_Op_impl_Op__impl_depths_c1 N) (fun r => [⟨(.int .i64), .imm, r⟩]) (fun r => []) }
def slices_IndexFunc_Simpl_Op_impl_Op__impl_depths_c1.cfg (N : Nat) : Cfg := { ty := tys, keep := [16], flt := [], elm := elm0, live := [(2, [0, 1, 7, 8])], ord := [], con := [((68, [.one]), impl_depths_c1.con N)], loops := [(2, loopCon N slices_IndexFunc_Simpl_Op_impl_Op__impl_depths_c1.sk2 slices_IndexFunc_Simpl_Op_impl_Op__impl_depths_c1.xs2 (fun {R} => slices_IndexFunc_Simpl_Op_impl_Op__impl_depths_c1.l2 (R := R) N))], joins := [] }
theorem slices_IndexFunc_Simpl_Op_impl_Op__impl_depths_c1.cons (N : Nat) : ConsOk Try.prog (slices_IndexFunc_Simpl_Op_impl_Op__impl_depths_c1.cfg N).con := (consOk_cons (hb68) (impl_depths_c1.ok N) (impl_depths_c1.det N) consOk_nil)
theorem slices_IndexFunc_Simpl_Op_impl_Op__impl_depths_c1.h2 {R : Type} (N : Nat) (d : slices_IndexFunc_Simpl_Op_impl_Op__impl_depths_c1.sk2.D) (kn : slices_IndexFunc_Simpl_Op_impl_Op__impl_depths_c1.sk2.D → Option R) (kx : XD slices_IndexFunc_Simpl_Op_impl_Op__impl_depths_c1.xs2 → Option R) : roundK (slices_IndexFunc_Simpl_Op_impl_Op__impl_depths_c1.cfg N) N (nthLoop (fnBody Try.f84) 0) slices_IndexFunc_Simpl_Op_impl_Op__impl_depths_c1.sk2 slices_IndexFunc_Simpl_Op_impl_Op__impl_depths_c1.xs2 d kn kx = slices_IndexFunc_Simpl_Op_impl_Op__impl_depths_c1.l2 N d kn kx := by kernel_rfl
theorem slices_IndexFunc_Simpl_Op_impl_Op__impl_depths_c1.i2 (N : Nat) : LoopsOk Try.prog (slices_IndexFunc_Simpl_Op_impl_Op__impl_depths_c1.cfg N) (nthLoop (fnBody Try.f84) 0) := loopsL (l := []) (by kernel_rfl) trivial
theorem slices_IndexFunc_Simpl_Op_impl_Op__impl_depths_c1.o2 (N : Nat) : LoopOk Try.prog (nthLoop (fnBody Try.f84) 0) (loopCon N slices_IndexFunc_Simpl_Op_impl_Op__impl_depths_c1.sk2 slices_IndexFunc_Simpl_Op_impl_Op__impl_depths_c1.xs2 (fun {R} => slices_IndexFunc_Simpl_Op_impl_Op__impl_depths_c1.l2 (R := R) N)) := loop_ok (g := slices_IndexFunc_Simpl_Op_impl_Op__impl_depths_c1.cfg N) tys_ok (slices_IndexFunc_Simpl_Op_impl_Op__impl_depths_c1.cons N) mixed (slices_IndexFunc_Simpl_Op_impl_Op__impl_depths_c1.i2 N) (fun d kn kx => slices_IndexFunc_Simpl_Op_impl_Op__impl_depths_c1.h2 N d kn kx)
theorem slices_IndexFunc_Simpl_Op_impl_Op__impl_depths_c1.ls (N : Nat) : LoopsOk Try.prog (slices_IndexFunc_Simpl_Op_impl_Op__impl_depths_c1.cfg N) (fnBody Try.f84) := loopsL (l := [nthLoop (fnBody Try.f84) 0]) (by kernel_rfl) ⟨loopOne (L0 := loopCon N slices_IndexFunc_Simpl_Op_impl_Op__impl_depths_c1.sk2 slices_IndexFunc_Simpl_Op_impl_Op__impl_depths_c1.xs2 (fun {R} => slices_IndexFunc_Simpl_Op_impl_Op__impl_depths_c1.l2 (R := R) N)) (id := 2) (by kernel_rfl) (by kernel_rfl) (slices_IndexFunc_Simpl_Op_impl_Op__impl_depths_c1.o2 N), trivial⟩
theorem slices_IndexFunc_Simpl_Op_impl_Op__impl_depths_c1.q2 {R R' : Type} {N n : Nat} {d} {k} {g : R → Option R'} : bindF (loopP (slices_IndexFunc_Simpl_Op_impl_Op__impl_depths_c1.l2 N) n d k) g = loopP (slices_IndexFunc_Simpl_Op_impl_Op__impl_depths_c1.l2 N) n d fun e => bindF (k e) g := bindF_loopP (fun d kn kx => by simp only [slices_IndexFunc_Simpl_Op_impl_Op__impl_depths_c1.l2, bindF_ifB, bindF_bindO, bindF_pure, bindF_none, bindF_onSum]) n d k
theorem slices_IndexFunc_Simpl_Op_impl_Op__impl_depths_c1.b (N : Nat) (x0 : den s29) (x1 : den (.int .i64)) : body (slices_IndexFunc_Simpl_Op_impl_Op__impl_depths_c1.cfg N) N Try.f84 [.one, .fn 68 1] [.v, .rd] [(false, .imm)] [⟨s29, .imm, x0⟩, ⟨(.int .i64), .imm, x1⟩] (fun r i => some (r, i)) = bindO (slices_IndexFunc_Simpl_Op_impl_Op__impl_depths_c1 N x0 x1) fun r => some ([⟨(.int .i64), .imm, r⟩], []) := by
  show _ = bindF _ _
  conv => rhs; simp only [slices_IndexFunc_Simpl_Op_impl_Op__impl_depths_c1, bindF_ifB, bindF_bindO, bindF_pure, bindF_none, bindF_onSum, slices_IndexFunc_Simpl_Op_impl_Op__impl_depths_c1.q2]
  kernel_rfl
theorem slices_IndexFunc_Simpl_Op_impl_Op__impl_depths_c1.ok (N : Nat) : ConOk Try.prog 84 [.one, .fn 68 1] (slices_IndexFunc_Simpl_Op_impl_Op__impl_depths_c1.con N) := ok2 (g := slices_IndexFunc_Simpl_Op_impl_Op__impl_depths_c1.cfg N) (N := N) (res := [(false, .imm)]) tys_ok (slices_IndexFunc_Simpl_Op_impl_Op__impl_depths_c1.cons N) mixed Try.func84 (slices_IndexFunc_Simpl_Op_impl_Op__impl_depths_c1.ls N) rfl (slices_IndexFunc_Simpl_Op_impl_Op__impl_depths_c1.b N)
theorem slices_IndexFunc_Simpl_Op_impl_Op__impl_depths_c1.det (N : Nat) : ConDet (slices_IndexFunc_Simpl_Op_impl_Op__impl_depths_c1.con N) := det2
def slices_ContainsFunc_Simpl_Op_impl_Op__impl_depths_c1.con (N : Nat) : Con := { modes := [.v, .rd], ptrs := [false], fn := fn2 s29 .imm (.int .i64) .imm (slices_ContainsFunc_Simpl_Op_impl_Op__impl_depths_c1 N) (fun r => [⟨.bool, .imm, r⟩]) (fun r => []) }
def slices_ContainsFunc_Simpl_Op_impl_Op__impl_depths_c1.cfg (N : Nat) : Cfg := { ty := tys, keep := [7], flt := [], elm := elm0, live := [], ord := [], con := [((84, [.one, .fn 68 1]), slices_IndexFunc_Simpl_Op_impl_Op__impl_depths_c1.con N)], loops := [], joins := [] }
theorem slices_ContainsFunc_Simpl_Op_impl_Op__impl_depths_c1.cons (N : Nat) : ConsOk Try.prog (slices_ContainsFunc_Simpl_Op_impl_Op__impl_depths_c1.cfg N).con := (consOk_cons (hb84) (slices_IndexFunc_Simpl_Op_impl_Op__impl_depths_c1.ok N) (slices_IndexFunc_Simpl_Op_impl_Op__impl_depths_c1.det N) consOk_nil)
theorem slices_ContainsFunc_Simpl_Op_impl_Op__impl_depths_c1.ls (N : Nat) : LoopsOk Try.prog (slices_ContainsFunc_Simpl_Op_impl_Op__impl_depths_c1.cfg N) (fnBody Try.f67) := loopsL (l := []) (by kernel_rfl) trivial
theorem slices_ContainsFunc_Simpl_Op_impl_Op__impl_depths_c1.b (N : Nat) (x0 : den s29) (x1 : den (.int .i64)) : body (slices_ContainsFunc_Simpl_Op_impl_Op__impl_depths_c1.cfg N) N Try.f67 [.one, .fn 68 1] [.v, .rd] [(false, .imm)] [⟨s29, .imm, x0⟩, ⟨(.int .i64), .imm, x1⟩] (fun r i => some (r, i)) = bindO (slices_ContainsFunc_Simpl_Op_impl_Op__impl_depths_c1 N x0 x1) fun r => some ([⟨.bool, .imm, r⟩], []) := by
  show _ = bindF _ _
  conv => rhs; simp only [slices_ContainsFunc_Simpl_Op_impl_Op__impl_depths_c1, bindF_ifB, bindF_bindO, bindF_pure, bindF_none, bindF_onSum]
  kernel_rfl
theorem slices_ContainsFunc_Simpl_Op_impl_Op__impl_depths_c1.ok (N : Nat) : ConOk Try.prog 67 [.one, .fn 68 1] (slices_ContainsFunc_Simpl_Op_impl_Op__impl_depths_c1.con N) := ok2 (g := slices_ContainsFunc_Simpl_Op_impl_Op__impl_depths_c1.cfg N) (N := N) (res := [(false, .imm)]) tys_ok (slices_ContainsFunc_Simpl_Op_impl_Op__impl_depths_c1.cons N) mixed Try.func67 (slices_ContainsFunc_Simpl_Op_impl_Op__impl_depths_c1.ls N) rfl (slices_ContainsFunc_Simpl_Op_impl_Op__impl_depths_c1.b N)
theorem slices_ContainsFunc_Simpl_Op_impl_Op__impl_depths_c1.det (N : Nat) : ConDet (slices_ContainsFunc_Simpl_Op_impl_Op__impl_depths_c1.con N) := det2
def math_bits_Mul32.con (N : Nat) : Con := { modes := [.v, .v], ptrs := [false, false], fn := fn2 (.int .u32) .imm (.int .u32) .imm (math_bits_Mul32 N) (fun r => [⟨(.int .u32), .imm, r.1⟩, ⟨(.int .u32), .imm, r.2⟩]) (fun r => []) }
def math_bits_Mul32.cfg (N : Nat) : Cfg := { ty := tys, keep := [], flt := [], elm := elm0, live := [], ord := [], con := [], loops := [], joins := [] }
theorem math_bits_Mul32.cons (N : Nat) : ConsOk Try.prog (math_bits_Mul32.cfg N).con := consOk_nil
theorem math_bits_Mul32.ls (N : Nat) : LoopsOk Try.prog (math_bits_Mul32.cfg N) (fnBody Try.f90) := loopsL (l := []) (by kernel_rfl) trivial
theorem math_bits_Mul32.b (N : Nat) (x0 : den (.int .u32)) (x1 : den (.int .u32)) : body (math_bits_Mul32.cfg N) N Try.f90 [.one, .one] [.v, .v] [(false, .imm), (false, .imm)] [⟨(.int .u32), .imm, x0⟩, ⟨(.int .u32), .imm, x1⟩] (fun r i => some (r, i)) = bindO (math_bits_Mul32 N x0 x1) fun r => some ([⟨(.int .u32), .imm, r.1⟩, ⟨(.int .u32), .imm, r.2⟩], []) := by
  show _ = bindF _ _
  conv => rhs; simp only [math_bits_Mul32, bindF_ifB, bindF_bindO, bindF_pure, bindF_none, bindF_onSum]
  kernel_rfl
theorem math_bits_Mul32.ok (N : Nat) : ConOk Try.prog 90 [.one, .one] (math_bits_Mul32.con N) := ok2 (g := math_bits_Mul32.cfg N) (N := N) (res := [(false, .imm), (false, .imm)]) tys_ok (math_bits_Mul32.cons N) mixed Try.func90 (math_bits_Mul32.ls N) rfl (math_bits_Mul32.b N)
theorem math_bits_Mul32.det (N : Nat) : ConDet (math_bits_Mul32.con N) := det2
def math_bits_Mul64.con (N : Nat) : Con := { modes := [.v, .v], ptrs := [false, false], fn := fn2 (.int .u64) .imm (.int .u64) .imm (math_bits_Mul64 N) (fun r => [⟨(.int .u64), .imm, r.1⟩, ⟨(.int .u64), .imm, r.2⟩]) (fun r => []) }
def math_bits_Mul64.cfg (N : Nat) : Cfg := { ty := tys, keep := [], flt := [], elm := elm0, live := [], ord := [], con := [], loops := [], joins := [] }
theorem math_bits_Mul64.cons (N : Nat) : ConsOk Try.prog (math_bits_Mul64.cfg N).con := consOk_nil
theorem math_bits_Mul64.ls (N : Nat) : LoopsOk Try.prog (math_bits_Mul64.cfg N) (fnBody Try.f91) := loopsL (l := []) (by kernel_rfl) trivial
theorem math_bits_Mul64.b (N : Nat) (x0 : den (.int .u64)) (x1 : den (.int .u64)) : body (math_bits_Mul64.cfg N) N Try.f91 [.one, .one] [.v, .v] [(false, .imm), (false, .imm)] [⟨(.int .u64), .imm, x0⟩, ⟨(.int .u64), .imm, x1⟩] (fun r i => some (r, i)) = bindO (math_bits_Mul64 N x0 x1) fun r => some ([⟨(.int .u64), .imm, r.1⟩, ⟨(.int .u64), .imm, r.2⟩], []) := by
  show _ = bindF _ _
  conv => rhs; simp only [math_bits_Mul64, bindF_ifB, bindF_bindO, bindF_pure, bindF_none, bindF_onSum]
  kernel_rfl
theorem math_bits_Mul64.ok (N : Nat) : ConOk Try.prog 91 [.one, .one] (math_bits_Mul64.con N) := ok2 (g := math_bits_Mul64.cfg N) (N := N) (res := [(false, .imm), (false, .imm)]) tys_ok (math_bits_Mul64.cons N) mixed Try.func91 (math_bits_Mul64.ls N) rfl (math_bits_Mul64.b N)
theorem math_bits_Mul64.det (N : Nat) : ConDet (math_bits_Mul64.con N) := det2
end Go.AE.F
end
