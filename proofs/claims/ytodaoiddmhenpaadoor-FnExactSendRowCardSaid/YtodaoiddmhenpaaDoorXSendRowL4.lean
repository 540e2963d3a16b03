/- The printed functions are what the program comes to: contracts. -/
import Derived.Test.YtodaoiddmhenpaaDoorXSendRowL3
noncomputable section
namespace Go.AE.F
open Go.AE Go.Proofs
set_option maxRecDepth 100000
def laws_eqCellS.sk4 : Skel := ⟨.pv s27 :: (.pv s27 :: (dd 3 (.pv (.int .i64) :: (dd 21 [])))), []⟩
def laws_eqCellS.xs4 : List XS := [⟨.exit 0, [], ⟨dd 27 [], []⟩⟩, ⟨.ret, [4], ⟨dd 4 (.pv .bool :: (dd 22 [])), []⟩⟩]
def laws_eqCellS.con (N : Nat) : Con := { modes := [.v, .v], ptrs := [false], fn := fn2 s27 .imm s27 .imm (laws_eqCellS N) (fun r => [⟨.bool, .imm, r⟩]) (fun r => []) }
def laws_eqCellS.cfg (N : Nat) : Cfg := { ty := tys, keep := [25], flt := [], elm := elm0, live := [(4, [0, 1, 5])], ord := [(6, [0, 1, 2, 3, 4, 5, 6, 7, 8, 9])], con := [((32, [.one, .one]), laws_eqCell.con N)], loops := [(4, loopCon N laws_eqCellS.sk4 laws_eqCellS.xs4 (fun {R} => laws_eqCellS.l4 (R := R) N))], joins := [] }
theorem laws_eqCellS.cons (N : Nat) : ConsOk Tryd.prog (laws_eqCellS.cfg N).con := (consOk_cons (hb32) (laws_eqCell.ok N) (laws_eqCell.det N) consOk_nil)
theorem laws_eqCellS.h4 {R : Type} (N : Nat) (d : laws_eqCellS.sk4.D) (kn : laws_eqCellS.sk4.D → Option R) (kx : XD laws_eqCellS.xs4 → Option R) : roundK (laws_eqCellS.cfg N) N (nthLoop (fnBody Tryd.f16) 0) laws_eqCellS.sk4 laws_eqCellS.xs4 d kn kx = laws_eqCellS.l4 N d kn kx := by kernel_rfl
theorem laws_eqCellS.i4 (N : Nat) : LoopsOk Tryd.prog (laws_eqCellS.cfg N) (nthLoop (fnBody Tryd.f16) 0) := loopsL (l := []) (by kernel_rfl) trivial
theorem laws_eqCellS.o4 (N : Nat) : LoopOk Tryd.prog (nthLoop (fnBody Tryd.f16) 0) (loopCon N laws_eqCellS.sk4 laws_eqCellS.xs4 (fun {R} => laws_eqCellS.l4 (R := R) N)) := loop_ok (g := laws_eqCellS.cfg N) tys_ok (laws_eqCellS.cons N) mixed (laws_eqCellS.i4 N) (fun d kn kx => laws_eqCellS.h4 N d kn kx)
theorem laws_eqCellS.ls (N : Nat) : LoopsOk Tryd.prog (laws_eqCellS.cfg N) (fnBody Tryd.f16) := loopsL (l := [nthLoop (fnBody Tryd.f16) 0]) (by kernel_rfl) ⟨loopOne (L0 := loopCon N laws_eqCellS.sk4 laws_eqCellS.xs4 (fun {R} => laws_eqCellS.l4 (R := R) N)) (id := 4) (by kernel_rfl) (by kernel_rfl) (laws_eqCellS.o4 N), trivial⟩
theorem laws_eqCellS.q4 {R R' : Type} {N n : Nat} {d} {k} {g : R → Option R'} : bindF (loopP (laws_eqCellS.l4 N) n d k) g = loopP (laws_eqCellS.l4 N) n d fun e => bindF (k e) g := bindF_loopP (fun d kn kx => by simp only [laws_eqCellS.l4, bindF_ifB, bindF_bindO, bindF_pure, bindF_none, bindF_onSum]) n d k
theorem laws_eqCellS.b (N : Nat) (x0 : den s27) (x1 : den s27) : body (laws_eqCellS.cfg N) N Tryd.f16 [.one, .one] [.v, .v] [(false, .imm)] [⟨s27, .imm, x0⟩, ⟨s27, .imm, x1⟩] (fun r i => some (r, i)) = bindO (laws_eqCellS N x0 x1) fun r => some ([⟨.bool, .imm, r⟩], []) := by
  show _ = bindF _ _
  conv => rhs; simp only [laws_eqCellS, bindF_ifB, bindF_bindO, bindF_pure, bindF_none, bindF_onSum, laws_eqCellS.q4]
  kernel_rfl
theorem laws_eqCellS.ok (N : Nat) : ConOk Tryd.prog 16 [.one, .one] (laws_eqCellS.con N) := ok2 (g := laws_eqCellS.cfg N) (N := N) (res := [(false, .imm)]) tys_ok (laws_eqCellS.cons N) mixed Tryd.func16 (laws_eqCellS.ls N) rfl (laws_eqCellS.b N)
theorem laws_eqCellS.det (N : Nat) : ConDet (laws_eqCellS.con N) := det2
def laws_eqGrid.con (N : Nat) : Con := { modes := [.v, .v], ptrs := [false], fn := fn2 s28 .imm s28 .imm (laws_eqGrid N) (fun r => [⟨.bool, .imm, r⟩]) (fun r => []) }
def laws_eqGrid.cfg (N : Nat) : Cfg := { ty := tys, keep := [19], flt := [], elm := elm0, live := [], ord := [], con := [((16, [.one, .one]), laws_eqCellS.con N)], loops := [], joins := [] }
theorem laws_eqGrid.cons (N : Nat) : ConsOk Tryd.prog (laws_eqGrid.cfg N).con := (consOk_cons (hb16) (laws_eqCellS.ok N) (laws_eqCellS.det N) consOk_nil)
theorem laws_eqGrid.ls (N : Nat) : LoopsOk Tryd.prog (laws_eqGrid.cfg N) (fnBody Tryd.f8) := loopsL (l := []) (by kernel_rfl) trivial
theorem laws_eqGrid.b (N : Nat) (x0 : den s28) (x1 : den s28) : body (laws_eqGrid.cfg N) N Tryd.f8 [.one, .one] [.v, .v] [(false, .imm)] [⟨s28, .imm, x0⟩, ⟨s28, .imm, x1⟩] (fun r i => some (r, i)) = bindO (laws_eqGrid N x0 x1) fun r => some ([⟨.bool, .imm, r⟩], []) := by
  show _ = bindF _ _
  conv => rhs; simp only [laws_eqGrid, bindF_ifB, bindF_bindO, bindF_pure, bindF_none, bindF_onSum]
  kernel_rfl
theorem laws_eqGrid.ok (N : Nat) : ConOk Tryd.prog 8 [.one, .one] (laws_eqGrid.con N) := ok2 (g := laws_eqGrid.cfg N) (N := N) (res := [(false, .imm)]) tys_ok (laws_eqGrid.cons N) mixed Tryd.func8 (laws_eqGrid.ls N) rfl (laws_eqGrid.b N)
theorem laws_eqGrid.det (N : Nat) : ConDet (laws_eqGrid.con N) := det2
def laws_FnExactSendRow.con (N : Nat) : Con := { modes := [.v, .v], ptrs := [false], fn := fn2 s23 .imm (.int .i64) .imm (laws_FnExactSendRow N) (fun r => [⟨.bool, .imm, r⟩]) (fun r => []) }
def laws_FnExactSendRow.cfg (N : Nat) : Cfg := { ty := tys, keep := [11, 15, 17, 19, 22, 28, 29], flt := [], elm := elm0, live := [], ord := [(10, [0, 1, 2, 3, 4])], con := [((4, [.one, .one]), laws_szGrid.con N), ((6, [.one]), laws_toGrid.con N), ((5, [.one, .one]), spec_SendRow.con N), ((7, [.one, .one]), impl_SendRow.con N), ((8, [.one, .one]), laws_eqGrid.con N)], loops := [], joins := [] }
theorem laws_FnExactSendRow.cons (N : Nat) : ConsOk Tryd.prog (laws_FnExactSendRow.cfg N).con := (consOk_cons (hb4) (laws_szGrid.ok N) (laws_szGrid.det N) (consOk_cons (hb6) (laws_toGrid.ok N) (laws_toGrid.det N) (consOk_cons (hb5) (spec_SendRow.ok N) (spec_SendRow.det N) (consOk_cons (hb7) (impl_SendRow.ok N) (impl_SendRow.det N) (consOk_cons (hb8) (laws_eqGrid.ok N) (laws_eqGrid.det N) consOk_nil)))))
theorem laws_FnExactSendRow.ls (N : Nat) : LoopsOk Tryd.prog (laws_FnExactSendRow.cfg N) (fnBody Tryd.f3) := loopsL (l := []) (by kernel_rfl) trivial
theorem laws_FnExactSendRow.b (N : Nat) (x0 : den s23) (x1 : den (.int .i64)) : body (laws_FnExactSendRow.cfg N) N Tryd.f3 [.one, .one] [.v, .v] [(false, .imm)] [⟨s23, .imm, x0⟩, ⟨(.int .i64), .imm, x1⟩] (fun r i => some (r, i)) = bindO (laws_FnExactSendRow N x0 x1) fun r => some ([⟨.bool, .imm, r⟩], []) := by
  show _ = bindF _ _
  conv => rhs; simp only [laws_FnExactSendRow, bindF_ifB, bindF_bindO, bindF_pure, bindF_none, bindF_onSum]
  kernel_rfl
theorem laws_FnExactSendRow.ok (N : Nat) : ConOk Tryd.prog 3 [.one, .one] (laws_FnExactSendRow.con N) := ok2 (g := laws_FnExactSendRow.cfg N) (N := N) (res := [(false, .imm)]) tys_ok (laws_FnExactSendRow.cons N) mixed Tryd.func3 (laws_FnExactSendRow.ls N) rfl (laws_FnExactSendRow.b N)
theorem laws_FnExactSendRow.det (N : Nat) : ConDet (laws_FnExactSendRow.con N) := det2
end Go.AE.F
end
