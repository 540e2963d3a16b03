/- The printed functions are what the program comes to: contracts. -/
import Derived.Test.YtmokidikfomifaaGreatXMachineRunL8
noncomputable section
namespace Go.AE.F
open Go.AE Go.Proofs
set_option maxRecDepth 100000
def laws_FnExactMachineRun.con (N : Nat) : Con := { modes := [.v, .v, .v], ptrs := [false], fn := fn3 s22 .imm s24 .imm (.int .i64) .imm (laws_FnExactMachineRun N) (fun r => [⟨.bool, .imm, r⟩]) (fun r => []) }
def laws_FnExactMachineRun.cfg (N : Nat) : Cfg := { ty := tys, keep := [18, 23, 27, 29, 31, 33, 35, 39, 42, 46, 47, 51, 52, 56, 59, 65, 70, 73, 80, 82, 84, 87, 91], flt := [], elm := elm0, live := [], ord := [(8, [6, 0, 2, 4, 1, 3, 5, 7]), (16, [0, 1, 2, 3, 4]), (31, [6, 0, 2, 4, 1, 3, 5, 7])], con := [((4, [.one, .one]), laws_szOpS.con N), ((5, [.one, .one]), laws_szBuf.con N), ((7, [.one]), laws_toOpS.con N), ((8, [.one]), laws_toBuf.con N), ((6, [.one, .one, .one]), spec_MachineRun.con N), ((9, [.one, .one, .one]), impl_MachineRun.con N), ((10, [.one, .one]), laws_eqRan.con N), ((11, [.one, .one]), laws_eqOpS.con N), ((12, [.one, .one]), laws_eqBuf.con N), ((13, [.one, .one]), laws_markOpS.con N), ((14, [.one, .one]), laws_markBuf.con N), ((15, [.one, .one]), laws_markRan.con N), ((16, [.one, .one]), laws_heldRan.con N)], loops := [], joins := [] }
theorem laws_FnExactMachineRun.cons (N : Nat) : ConsOk Tryz.prog (laws_FnExactMachineRun.cfg N).con := (consOk_cons (hb4) (laws_szOpS.ok N) (laws_szOpS.det N) (consOk_cons (hb5) (laws_szBuf.ok N) (laws_szBuf.det N) (consOk_cons (hb7) (laws_toOpS.ok N) (laws_toOpS.det N) (consOk_cons (hb8) (laws_toBuf.ok N) (laws_toBuf.det N) (consOk_cons (hb6) (spec_MachineRun.ok N) (spec_MachineRun.det N) (consOk_cons (hb9) (impl_MachineRun.ok N) (impl_MachineRun.det N) (consOk_cons (hb10) (laws_eqRan.ok N) (laws_eqRan.det N) (consOk_cons (hb11) (laws_eqOpS.ok N) (laws_eqOpS.det N) (consOk_cons (hb12) (laws_eqBuf.ok N) (laws_eqBuf.det N) (consOk_cons (hb13) (laws_markOpS.ok N) (laws_markOpS.det N) (consOk_cons (hb14) (laws_markBuf.ok N) (laws_markBuf.det N) (consOk_cons (hb15) (laws_markRan.ok N) (laws_markRan.det N) (consOk_cons (hb16) (laws_heldRan.ok N) (laws_heldRan.det N) consOk_nil)))))))))))))
theorem laws_FnExactMachineRun.ls (N : Nat) : LoopsOk Tryz.prog (laws_FnExactMachineRun.cfg N) (fnBody Tryz.f3) := loopsL (l := []) (by kernel_rfl) trivial
theorem laws_FnExactMachineRun.b (N : Nat) (x0 : den s22) (x1 : den s24) (x2 : den (.int .i64)) : body (laws_FnExactMachineRun.cfg N) N Tryz.f3 [.one, .one, .one] [.v, .v, .v] [(false, .imm)] [⟨s22, .imm, x0⟩, ⟨s24, .imm, x1⟩, ⟨(.int .i64), .imm, x2⟩] (fun r i => some (r, i)) = bindO (laws_FnExactMachineRun N x0 x1 x2) fun r => some ([⟨.bool, .imm, r⟩], []) := by
  show _ = bindF _ _
  conv => rhs; simp only [laws_FnExactMachineRun, bindF_ifB, bindF_bindO, bindF_pure, bindF_none, bindF_onSum]
  kernel_rfl
theorem laws_FnExactMachineRun.ok (N : Nat) : ConOk Tryz.prog 3 [.one, .one, .one] (laws_FnExactMachineRun.con N) := ok3 (g := laws_FnExactMachineRun.cfg N) (N := N) (res := [(false, .imm)]) tys_ok (laws_FnExactMachineRun.cons N) mixed Tryz.func3 (laws_FnExactMachineRun.ls N) rfl (laws_FnExactMachineRun.b N)
theorem laws_FnExactMachineRun.det (N : Nat) : ConDet (laws_FnExactMachineRun.con N) := det3
end Go.AE.F
end
