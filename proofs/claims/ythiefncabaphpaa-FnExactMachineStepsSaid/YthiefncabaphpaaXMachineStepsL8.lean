/- The printed functions are what the program comes to: contracts. -/
import Derived.Test.YthiefncabaphpaaXMachineStepsL7
noncomputable section
namespace Go.AE.F
open Go.AE Go.Proofs
set_option maxRecDepth 100000
def laws_eqOp.con (N : Nat) : Con := { modes := [.v, .v], ptrs := [false], fn := fn2 s43 .imm s43 .imm (laws_eqOp N) (fun r => [⟨.bool, .imm, r⟩]) (fun r => []) }
def laws_eqOp.cfg (N : Nat) : Cfg := { ty := tys, keep := [], flt := [], elm := elm0, live := [], ord := [], con := [], loops := [], joins := [] }
theorem laws_eqOp.cons (N : Nat) : ConsOk Try.prog (laws_eqOp.cfg N).con := consOk_nil
theorem laws_eqOp.ls (N : Nat) : LoopsOk Try.prog (laws_eqOp.cfg N) (fnBody Try.f19) := loopsL (l := []) (by kernel_rfl) trivial
theorem laws_eqOp.b (N : Nat) (x0 : den s43) (x1 : den s43) : body (laws_eqOp.cfg N) N Try.f19 [.one, .one] [.v, .v] [(false, .imm)] [⟨s43, .imm, x0⟩, ⟨s43, .imm, x1⟩] (fun r i => some (r, i)) = bindO (laws_eqOp N x0 x1) fun r => some ([⟨.bool, .imm, r⟩], []) := by
  show _ = bindF _ _
  conv => rhs; simp only [laws_eqOp, bindF_ifB, bindF_bindO, bindF_pure, bindF_none, bindF_onSum]
  kernel_rfl
theorem laws_eqOp.ok (N : Nat) : ConOk Try.prog 19 [.one, .one] (laws_eqOp.con N) := ok2 (g := laws_eqOp.cfg N) (N := N) (res := [(false, .imm)]) tys_ok (laws_eqOp.cons N) mixed Try.func19 (laws_eqOp.ls N) rfl (laws_eqOp.b N)
theorem laws_eqOp.det (N : Nat) : ConDet (laws_eqOp.con N) := det2
def laws_eqOpS.sk4 : Skel := ⟨.pv s29 :: (.pv s29 :: (dd 3 (.pv (.int .i64) :: (dd 21 [])))), []⟩
def laws_eqOpS.xs4 : List XS := [⟨.exit 0, [], ⟨dd 27 [], []⟩⟩, ⟨.ret, [4], ⟨dd 4 (.pv .bool :: (dd 22 [])), []⟩⟩]
def laws_eqOpS.con (N : Nat) : Con := { modes := [.v, .v], ptrs := [false], fn := fn2 s29 .imm s29 .imm (laws_eqOpS N) (fun r => [⟨.bool, .imm, r⟩]) (fun r => []) }
def laws_eqOpS.cfg (N : Nat) : Cfg := { ty := tys, keep := [25], flt := [], elm := elm0, live := [(4, [0, 1, 5])], ord := [(6, [0, 1, 2, 3, 4, 5, 6, 7, 8, 9])], con := [((19, [.one, .one]), laws_eqOp.con N)], loops := [(4, loopCon N laws_eqOpS.sk4 laws_eqOpS.xs4 (fun {R} => laws_eqOpS.l4 (R := R) N))], joins := [] }
theorem laws_eqOpS.cons (N : Nat) : ConsOk Try.prog (laws_eqOpS.cfg N).con := (consOk_cons (hb19) (laws_eqOp.ok N) (laws_eqOp.det N) consOk_nil)
theorem laws_eqOpS.h4 {R : Type} (N : Nat) (d : laws_eqOpS.sk4.D) (kn : laws_eqOpS.sk4.D → Option R) (kx : XD laws_eqOpS.xs4 → Option R) : roundK (laws_eqOpS.cfg N) N (nthLoop (fnBody Try.f10) 0) laws_eqOpS.sk4 laws_eqOpS.xs4 d kn kx = laws_eqOpS.l4 N d kn kx := by kernel_rfl
theorem laws_eqOpS.i4 (N : Nat) : LoopsOk Try.prog (laws_eqOpS.cfg N) (nthLoop (fnBody Try.f10) 0) := loopsL (l := []) (by kernel_rfl) trivial
theorem laws_eqOpS.o4 (N : Nat) : LoopOk Try.prog (nthLoop (fnBody Try.f10) 0) (loopCon N laws_eqOpS.sk4 laws_eqOpS.xs4 (fun {R} => laws_eqOpS.l4 (R := R) N)) := loop_ok (g := laws_eqOpS.cfg N) tys_ok (laws_eqOpS.cons N) mixed (laws_eqOpS.i4 N) (fun d kn kx => laws_eqOpS.h4 N d kn kx)
theorem laws_eqOpS.ls (N : Nat) : LoopsOk Try.prog (laws_eqOpS.cfg N) (fnBody Try.f10) := loopsL (l := [nthLoop (fnBody Try.f10) 0]) (by kernel_rfl) ⟨loopOne (L0 := loopCon N laws_eqOpS.sk4 laws_eqOpS.xs4 (fun {R} => laws_eqOpS.l4 (R := R) N)) (id := 4) (by kernel_rfl) (by kernel_rfl) (laws_eqOpS.o4 N), trivial⟩
theorem laws_eqOpS.q4 {R R' : Type} {N n : Nat} {d} {k} {g : R → Option R'} : bindF (loopP (laws_eqOpS.l4 N) n d k) g = loopP (laws_eqOpS.l4 N) n d fun e => bindF (k e) g := bindF_loopP (fun d kn kx => by simp only [laws_eqOpS.l4, bindF_ifB, bindF_bindO, bindF_pure, bindF_none, bindF_onSum]) n d k
theorem laws_eqOpS.b (N : Nat) (x0 : den s29) (x1 : den s29) : body (laws_eqOpS.cfg N) N Try.f10 [.one, .one] [.v, .v] [(false, .imm)] [⟨s29, .imm, x0⟩, ⟨s29, .imm, x1⟩] (fun r i => some (r, i)) = bindO (laws_eqOpS N x0 x1) fun r => some ([⟨.bool, .imm, r⟩], []) := by
  show _ = bindF _ _
  conv => rhs; simp only [laws_eqOpS, bindF_ifB, bindF_bindO, bindF_pure, bindF_none, bindF_onSum, laws_eqOpS.q4]
  kernel_rfl
theorem laws_eqOpS.ok (N : Nat) : ConOk Try.prog 10 [.one, .one] (laws_eqOpS.con N) := ok2 (g := laws_eqOpS.cfg N) (N := N) (res := [(false, .imm)]) tys_ok (laws_eqOpS.cons N) mixed Try.func10 (laws_eqOpS.ls N) rfl (laws_eqOpS.b N)
theorem laws_eqOpS.det (N : Nat) : ConDet (laws_eqOpS.con N) := det2
def laws_eqInt64S.sk4 : Skel := ⟨.pv s23 :: (.pv s23 :: (dd 3 (.pv (.int .i64) :: (dd 20 [])))), []⟩
def laws_eqInt64S.xs4 : List XS := [⟨.exit 0, [], ⟨dd 26 [], []⟩⟩, ⟨.ret, [4], ⟨dd 4 (.pv .bool :: (dd 21 [])), []⟩⟩]
def laws_eqInt64S.con (N : Nat) : Con := { modes := [.v, .v], ptrs := [false], fn := fn2 s23 .imm s23 .imm (laws_eqInt64S N) (fun r => [⟨.bool, .imm, r⟩]) (fun r => []) }
def laws_eqInt64S.cfg (N : Nat) : Cfg := { ty := tys, keep := [], flt := [], elm := elm0, live := [(4, [0, 1, 5])], ord := [(6, [0, 1, 2, 3, 4, 5, 6, 7, 8])], con := [], loops := [(4, loopCon N laws_eqInt64S.sk4 laws_eqInt64S.xs4 (fun {R} => laws_eqInt64S.l4 (R := R) N))], joins := [] }
theorem laws_eqInt64S.cons (N : Nat) : ConsOk Try.prog (laws_eqInt64S.cfg N).con := consOk_nil
theorem laws_eqInt64S.h4 {R : Type} (N : Nat) (d : laws_eqInt64S.sk4.D) (kn : laws_eqInt64S.sk4.D → Option R) (kx : XD laws_eqInt64S.xs4 → Option R) : roundK (laws_eqInt64S.cfg N) N (nthLoop (fnBody Try.f20) 0) laws_eqInt64S.sk4 laws_eqInt64S.xs4 d kn kx = laws_eqInt64S.l4 N d kn kx := by kernel_rfl
theorem laws_eqInt64S.i4 (N : Nat) : LoopsOk Try.prog (laws_eqInt64S.cfg N) (nthLoop (fnBody Try.f20) 0) := loopsL (l := []) (by kernel_rfl) trivial
theorem laws_eqInt64S.o4 (N : Nat) : LoopOk Try.prog (nthLoop (fnBody Try.f20) 0) (loopCon N laws_eqInt64S.sk4 laws_eqInt64S.xs4 (fun {R} => laws_eqInt64S.l4 (R := R) N)) := loop_ok (g := laws_eqInt64S.cfg N) tys_ok (laws_eqInt64S.cons N) mixed (laws_eqInt64S.i4 N) (fun d kn kx => laws_eqInt64S.h4 N d kn kx)
theorem laws_eqInt64S.ls (N : Nat) : LoopsOk Try.prog (laws_eqInt64S.cfg N) (fnBody Try.f20) := loopsL (l := [nthLoop (fnBody Try.f20) 0]) (by kernel_rfl) ⟨loopOne (L0 := loopCon N laws_eqInt64S.sk4 laws_eqInt64S.xs4 (fun {R} => laws_eqInt64S.l4 (R := R) N)) (id := 4) (by kernel_rfl) (by kernel_rfl) (laws_eqInt64S.o4 N), trivial⟩
theorem laws_eqInt64S.q4 {R R' : Type} {N n : Nat} {d} {k} {g : R → Option R'} : bindF (loopP (laws_eqInt64S.l4 N) n d k) g = loopP (laws_eqInt64S.l4 N) n d fun e => bindF (k e) g := bindF_loopP (fun d kn kx => by simp only [laws_eqInt64S.l4, bindF_ifB, bindF_bindO, bindF_pure, bindF_none, bindF_onSum]) n d k
theorem laws_eqInt64S.b (N : Nat) (x0 : den s23) (x1 : den s23) : body (laws_eqInt64S.cfg N) N Try.f20 [.one, .one] [.v, .v] [(false, .imm)] [⟨s23, .imm, x0⟩, ⟨s23, .imm, x1⟩] (fun r i => some (r, i)) = bindO (laws_eqInt64S N x0 x1) fun r => some ([⟨.bool, .imm, r⟩], []) := by
  show _ = bindF _ _
  conv => rhs; simp only [laws_eqInt64S, bindF_ifB, bindF_bindO, bindF_pure, bindF_none, bindF_onSum, laws_eqInt64S.q4]
  kernel_rfl
theorem laws_eqInt64S.ok (N : Nat) : ConOk Try.prog 20 [.one, .one] (laws_eqInt64S.con N) := ok2 (g := laws_eqInt64S.cfg N) (N := N) (res := [(false, .imm)]) tys_ok (laws_eqInt64S.cons N) mixed Try.func20 (laws_eqInt64S.ls N) rfl (laws_eqInt64S.b N)
theorem laws_eqInt64S.det (N : Nat) : ConDet (laws_eqInt64S.con N) := det2
def laws_eqBuf.con (N : Nat) : Con := { modes := [.v, .v], ptrs := [false], fn := fn2 s24 .imm s24 .imm (laws_eqBuf N) (fun r => [⟨.bool, .imm, r⟩]) (fun r => []) }
def laws_eqBuf.cfg (N : Nat) : Cfg := { ty := tys, keep := [9], flt := [], elm := elm0, live := [], ord := [], con := [((20, [.one, .one]), laws_eqInt64S.con N)], loops := [], joins := [] }
theorem laws_eqBuf.cons (N : Nat) : ConsOk Try.prog (laws_eqBuf.cfg N).con := (consOk_cons (hb20) (laws_eqInt64S.ok N) (laws_eqInt64S.det N) consOk_nil)
theorem laws_eqBuf.ls (N : Nat) : LoopsOk Try.prog (laws_eqBuf.cfg N) (fnBody Try.f11) := loopsL (l := []) (by kernel_rfl) trivial
theorem laws_eqBuf.b (N : Nat) (x0 : den s24) (x1 : den s24) : body (laws_eqBuf.cfg N) N Try.f11 [.one, .one] [.v, .v] [(false, .imm)] [⟨s24, .imm, x0⟩, ⟨s24, .imm, x1⟩] (fun r i => some (r, i)) = bindO (laws_eqBuf N x0 x1) fun r => some ([⟨.bool, .imm, r⟩], []) := by
  show _ = bindF _ _
  conv => rhs; simp only [laws_eqBuf, bindF_ifB, bindF_bindO, bindF_pure, bindF_none, bindF_onSum]
  kernel_rfl
theorem laws_eqBuf.ok (N : Nat) : ConOk Try.prog 11 [.one, .one] (laws_eqBuf.con N) := ok2 (g := laws_eqBuf.cfg N) (N := N) (res := [(false, .imm)]) tys_ok (laws_eqBuf.cons N) mixed Try.func11 (laws_eqBuf.ls N) rfl (laws_eqBuf.b N)
theorem laws_eqBuf.det (N : Nat) : ConDet (laws_eqBuf.con N) := det2
def laws_FnExactMachineSteps.con (N : Nat) : Con := { modes := [.v, .v, .v], ptrs := [false], fn := fn3 s22 .imm s24 .imm (.int .i64) .imm (laws_FnExactMachineSteps N) (fun r => [⟨.bool, .imm, r⟩]) (fun r => []) }
def laws_FnExactMachineSteps.cfg (N : Nat) : Cfg := { ty := tys, keep := [14, 19, 23, 25, 27, 29, 31, 35, 41, 42, 46, 47], flt := [], elm := elm0, live := [], ord := [(8, [0, 2, 4, 1, 3, 5, 6]), (16, [0, 1, 2, 3, 4])], con := [((4, [.one, .one]), laws_szOpS.con N), ((5, [.one, .one]), laws_szBuf.con N), ((7, [.one]), laws_toOpS.con N), ((8, [.one]), laws_toBuf.con N), ((6, [.one, .one, .one]), spec_MachineSteps.con N), ((9, [.one, .one, .one]), impl_MachineSteps.con N), ((10, [.one, .one]), laws_eqOpS.con N), ((11, [.one, .one]), laws_eqBuf.con N)], loops := [], joins := [] }
theorem laws_FnExactMachineSteps.cons (N : Nat) : ConsOk Try.prog (laws_FnExactMachineSteps.cfg N).con := (consOk_cons (hb4) (laws_szOpS.ok N) (laws_szOpS.det N) (consOk_cons (hb5) (laws_szBuf.ok N) (laws_szBuf.det N) (consOk_cons (hb7) (laws_toOpS.ok N) (laws_toOpS.det N) (consOk_cons (hb8) (laws_toBuf.ok N) (laws_toBuf.det N) (consOk_cons (hb6) (spec_MachineSteps.ok N) (spec_MachineSteps.det N) (consOk_cons (hb9) (impl_MachineSteps.ok N) (impl_MachineSteps.det N) (consOk_cons (hb10) (laws_eqOpS.ok N) (laws_eqOpS.det N) (consOk_cons (hb11) (laws_eqBuf.ok N) (laws_eqBuf.det N) consOk_nil))))))))
theorem laws_FnExactMachineSteps.ls (N : Nat) : LoopsOk Try.prog (laws_FnExactMachineSteps.cfg N) (fnBody Try.f3) := loopsL (l := []) (by kernel_rfl) trivial
theorem laws_FnExactMachineSteps.b (N : Nat) (x0 : den s22) (x1 : den s24) (x2 : den (.int .i64)) : body (laws_FnExactMachineSteps.cfg N) N Try.f3 [.one, .one, .one] [.v, .v, .v] [(false, .imm)] [⟨s22, .imm, x0⟩, ⟨s24, .imm, x1⟩, ⟨(.int .i64), .imm, x2⟩] (fun r i => some (r, i)) = bindO (laws_FnExactMachineSteps N x0 x1 x2) fun r => some ([⟨.bool, .imm, r⟩], []) := by
  show _ = bindF _ _
  conv => rhs; simp only [laws_FnExactMachineSteps, bindF_ifB, bindF_bindO, bindF_pure, bindF_none, bindF_onSum]
  kernel_rfl
theorem laws_FnExactMachineSteps.ok (N : Nat) : ConOk Try.prog 3 [.one, .one, .one] (laws_FnExactMachineSteps.con N) := ok3 (g := laws_FnExactMachineSteps.cfg N) (N := N) (res := [(false, .imm)]) tys_ok (laws_FnExactMachineSteps.cons N) mixed Try.func3 (laws_FnExactMachineSteps.ls N) rfl (laws_FnExactMachineSteps.b N)
theorem laws_FnExactMachineSteps.det (N : Nat) : ConDet (laws_FnExactMachineSteps.con N) := det3
end Go.AE.F
end
