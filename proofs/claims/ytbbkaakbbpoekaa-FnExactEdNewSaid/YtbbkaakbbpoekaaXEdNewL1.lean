/- The printed functions are what the program comes to: contracts. -/
import Derived.Test.YtbbkaakbbpoekaaXEdNewL0
namespace Go.AE.F
open Go.AE Go.Proofs
set_option maxRecDepth 100000
noncomputable def laws_eqHist.con (N : Nat) : Con := { modes := [.v, .v], ptrs := [false], fn := fun ds k => match ds with | [d0, d1] => castDm (.pair (.sl 25 (.sl 2 (.int .i64))) (.pair (.int .i64) (.pair (.sl 2 (.int .i64)) .unit))) .imm d0 fun x0 => castDm (.pair (.sl 25 (.sl 2 (.int .i64))) (.pair (.int .i64) (.pair (.sl 2 (.int .i64)) .unit))) .imm d1 fun x1 => bindO (laws_eqHist N x0 x1) fun r => k [⟨.bool, .imm, r⟩] [] | _ => none }
noncomputable def laws_eqHist.cfg (N : Nat) : Cfg := { ty := tys, keep := [9, 20], flt := [], elm := [(22, (.own .imm)), (23, (.own .imm)), (24, (.own (.own .imm))), (25, (.own .imm)), (26, (.pr (.own .imm) .imm)), (27, (.pr (.own .imm) .imm)), (28, (.pr (.own (.own .imm)) .imm)), (29, (.pr (.own (.own .imm)) .imm)), (30, (.own (.pr (.own .imm) .imm))), (31, (.pr (.own (.pr (.own .imm) .imm)) (.pr (.own (.pr (.own .imm) .imm)) .imm))), (32, (.pr (.own (.pr (.own .imm) .imm)) (.pr (.own (.pr (.own .imm) .imm)) .imm))), (33, (.pr (.own (.own .imm)) (.pr .imm (.pr (.own .imm) .imm)))), (34, (.pr (.own (.own .imm)) (.pr .imm (.pr (.own .imm) .imm)))), (35, (.pr (.own .imm) (.pr (.own .imm) (.pr (.own (.own .imm)) (.pr (.pr (.own .imm) .imm) (.pr (.pr (.own (.own .imm)) .imm) (.pr (.pr (.own (.pr (.own .imm) .imm)) (.pr (.own (.pr (.own .imm) .imm)) .imm)) (.pr (.pr (.own (.own .imm)) (.pr .imm (.pr (.own .imm) .imm))) (.pr .imm (.pr .imm (.pr .imm (.pr .imm (.pr .imm (.pr (.own (.own .imm)) .imm)))))))))))))), (36, (.pr (.own .imm) (.pr (.own .imm) (.pr (.own (.own .imm)) (.pr (.pr (.own .imm) .imm) (.pr (.pr (.own (.own .imm)) .imm) (.pr (.pr (.own (.pr (.own .imm) .imm)) (.pr (.own (.pr (.own .imm) .imm)) .imm)) (.pr (.pr (.own (.own .imm)) (.pr .imm (.pr (.own .imm) .imm))) (.pr .imm (.pr .imm (.pr .imm (.pr .imm (.pr .imm (.pr (.own (.own .imm)) .imm)))))))))))))), (66, (.own .imm))], live := [], ord := [], con := [((11, [.one, .one]), laws_eqInt64SS.con N), ((32, [.one, .one]), laws_eqInt64S.con N)], loops := [], joins := [] }
theorem laws_eqHist.cons (N : Nat) : ConsOk Try.prog (laws_eqHist.cfg N).con := (consOk_cons (hb11) (laws_eqInt64SS.ok N) (laws_eqInt64SS.det N) (consOk_cons (hb32) (laws_eqInt64S.ok N) (laws_eqInt64S.det N) consOk_nil))
theorem laws_eqHist.ls (N : Nat) : LoopsOk Try.prog (laws_eqHist.cfg N) (fnBody Try.f15) := loopsL (l := []) (by kernel_rfl) trivial
theorem laws_eqHist.b (N : Nat) (x0 : den (.pair (.sl 25 (.sl 2 (.int .i64))) (.pair (.int .i64) (.pair (.sl 2 (.int .i64)) .unit)))) (x1 : den (.pair (.sl 25 (.sl 2 (.int .i64))) (.pair (.int .i64) (.pair (.sl 2 (.int .i64)) .unit)))) : body (laws_eqHist.cfg N) N Try.f15 [.one, .one] [.v, .v] [(false, .imm)] [⟨(.pair (.sl 25 (.sl 2 (.int .i64))) (.pair (.int .i64) (.pair (.sl 2 (.int .i64)) .unit))), .imm, x0⟩, ⟨(.pair (.sl 25 (.sl 2 (.int .i64))) (.pair (.int .i64) (.pair (.sl 2 (.int .i64)) .unit))), .imm, x1⟩] (fun r i => some (r, i)) = bindO (laws_eqHist N x0 x1) fun r => some ([⟨.bool, .imm, r⟩], []) := by
  show _ = bindF _ _
  conv => rhs; simp only [laws_eqHist, bindF_ifB, bindF_bindO, bindF_pure, bindF_none, bindF_onSum]
  kernel_rfl
theorem laws_eqHist.ok (N : Nat) : ConOk Try.prog 15 [.one, .one] (laws_eqHist.con N) := by
  refine conOk_mk (g := laws_eqHist.cfg N) (N := N) (res := [(false, .imm)]) tys_ok (laws_eqHist.cons N) mixed Try.func15 (laws_eqHist.ls N) rfl rfl ?_
  intro ds R k y h
  cases ds with
  | nil => exact none_some h
  | cons d0 ds =>
  cases ds with
  | nil => exact none_some h
  | cons d1 ds =>
  cases ds with
  | cons _ _ => exact none_some h
  | nil =>
  have h0 : (castDm (.pair (.sl 25 (.sl 2 (.int .i64))) (.pair (.int .i64) (.pair (.sl 2 (.int .i64)) .unit))) .imm d0 fun x0 => castDm (.pair (.sl 25 (.sl 2 (.int .i64))) (.pair (.int .i64) (.pair (.sl 2 (.int .i64)) .unit))) .imm d1 fun x1 => bindO (laws_eqHist N x0 x1) fun r => k [⟨.bool, .imm, r⟩] []) = some y := h
  clear h
  obtain ⟨x0, rfl, h1⟩ := castDm_eq h0
  obtain ⟨x1, rfl, h2⟩ := castDm_eq h1
  exact con_fin (laws_eqHist.b N x0 x1) h2
theorem laws_eqHist.det (N : Nat) : ConDet (laws_eqHist.con N) := by
  intro ds R k y h
  cases ds with
  | nil => exact none_some h
  | cons d0 ds =>
  cases ds with
  | nil => exact none_some h
  | cons d1 ds =>
  cases ds with
  | cons _ _ => exact none_some h
  | nil =>
  have h0 : (castDm (.pair (.sl 25 (.sl 2 (.int .i64))) (.pair (.int .i64) (.pair (.sl 2 (.int .i64)) .unit))) .imm d0 fun x0 => castDm (.pair (.sl 25 (.sl 2 (.int .i64))) (.pair (.int .i64) (.pair (.sl 2 (.int .i64)) .unit))) .imm d1 fun x1 => bindO (laws_eqHist N x0 x1) fun r => k [⟨.bool, .imm, r⟩] []) = some y := h
  clear h
  obtain ⟨x0, rfl, h1⟩ := castDm_eq h0
  obtain ⟨x1, rfl, h2⟩ := castDm_eq h1
  obtain ⟨r, e, h⟩ := bindO_some h2
  refine ⟨_, _, h, fun k' => ?_⟩
  show (castDm (.pair (.sl 25 (.sl 2 (.int .i64))) (.pair (.int .i64) (.pair (.sl 2 (.int .i64)) .unit))) .imm (⟨(.pair (.sl 25 (.sl 2 (.int .i64))) (.pair (.int .i64) (.pair (.sl 2 (.int .i64)) .unit))), .imm, x0⟩ : Dy) fun x0 => castDm (.pair (.sl 25 (.sl 2 (.int .i64))) (.pair (.int .i64) (.pair (.sl 2 (.int .i64)) .unit))) .imm (⟨(.pair (.sl 25 (.sl 2 (.int .i64))) (.pair (.int .i64) (.pair (.sl 2 (.int .i64)) .unit))), .imm, x1⟩ : Dy) fun x1 => bindO (laws_eqHist N x0 x1) fun r => k' [⟨.bool, .imm, r⟩] []) = _
  simp only [castDm_self]
  rw [e]
  rfl
noncomputable def laws_eqEd.con (N : Nat) : Con := { modes := [.v, .v], ptrs := [false], fn := fun ds k => match ds with | [d0, d1] => castDm (.pair (.sl 57 (.pair (.int .i64) (.pair .str (.pair .str .unit)))) (.pair (.sl 60 (.pair .str (.pair .str .unit))) (.pair (.sl 25 (.sl 2 (.int .i64))) (.pair (.pair (.sl 2 (.int .i64)) (.pair (.int .i64) (.pair (.int .i64) .unit))) (.pair (.pair (.sl 25 (.sl 2 (.int .i64))) (.pair (.int .i64) .unit)) (.pair (.pair (.sl 27 (.pair (.sl 2 (.int .i64)) (.pair (.int .i64) (.pair (.int .i64) .unit)))) (.pair (.sl 27 (.pair (.sl 2 (.int .i64)) (.pair (.int .i64) (.pair (.int .i64) .unit)))) .unit)) (.pair (.pair (.sl 25 (.sl 2 (.int .i64))) (.pair (.int .i64) (.pair (.sl 2 (.int .i64)) .unit))) (.pair (.int .i64) (.pair .str (.pair (.int .i64) (.pair (.int .i64) (.pair (.int .i64) (.pair (.sl 25 (.sl 2 (.int .i64))) .unit))))))))))))) .imm d0 fun x0 => castDm (.pair (.sl 57 (.pair (.int .i64) (.pair .str (.pair .str .unit)))) (.pair (.sl 60 (.pair .str (.pair .str .unit))) (.pair (.sl 25 (.sl 2 (.int .i64))) (.pair (.pair (.sl 2 (.int .i64)) (.pair (.int .i64) (.pair (.int .i64) .unit))) (.pair (.pair (.sl 25 (.sl 2 (.int .i64))) (.pair (.int .i64) .unit)) (.pair (.pair (.sl 27 (.pair (.sl 2 (.int .i64)) (.pair (.int .i64) (.pair (.int .i64) .unit)))) (.pair (.sl 27 (.pair (.sl 2 (.int .i64)) (.pair (.int .i64) (.pair (.int .i64) .unit)))) .unit)) (.pair (.pair (.sl 25 (.sl 2 (.int .i64))) (.pair (.int .i64) (.pair (.sl 2 (.int .i64)) .unit))) (.pair (.int .i64) (.pair .str (.pair (.int .i64) (.pair (.int .i64) (.pair (.int .i64) (.pair (.sl 25 (.sl 2 (.int .i64))) .unit))))))))))))) .imm d1 fun x1 => bindO (laws_eqEd N x0 x1) fun r => k [⟨.bool, .imm, r⟩] [] | _ => none }
noncomputable def laws_eqEd.cfg (N : Nat) : Cfg := { ty := tys, keep := [9, 15, 21, 27, 33, 39, 45, 76], flt := [], elm := [(22, (.own .imm)), (23, (.own .imm)), (24, (.own (.own .imm))), (25, (.own .imm)), (26, (.pr (.own .imm) .imm)), (27, (.pr (.own .imm) .imm)), (28, (.pr (.own (.own .imm)) .imm)), (29, (.pr (.own (.own .imm)) .imm)), (30, (.own (.pr (.own .imm) .imm))), (31, (.pr (.own (.pr (.own .imm) .imm)) (.pr (.own (.pr (.own .imm) .imm)) .imm))), (32, (.pr (.own (.pr (.own .imm) .imm)) (.pr (.own (.pr (.own .imm) .imm)) .imm))), (33, (.pr (.own (.own .imm)) (.pr .imm (.pr (.own .imm) .imm)))), (34, (.pr (.own (.own .imm)) (.pr .imm (.pr (.own .imm) .imm)))), (35, (.pr (.own .imm) (.pr (.own .imm) (.pr (.own (.own .imm)) (.pr (.pr (.own .imm) .imm) (.pr (.pr (.own (.own .imm)) .imm) (.pr (.pr (.own (.pr (.own .imm) .imm)) (.pr (.own (.pr (.own .imm) .imm)) .imm)) (.pr (.pr (.own (.own .imm)) (.pr .imm (.pr (.own .imm) .imm))) (.pr .imm (.pr .imm (.pr .imm (.pr .imm (.pr .imm (.pr (.own (.own .imm)) .imm)))))))))))))), (36, (.pr (.own .imm) (.pr (.own .imm) (.pr (.own (.own .imm)) (.pr (.pr (.own .imm) .imm) (.pr (.pr (.own (.own .imm)) .imm) (.pr (.pr (.own (.pr (.own .imm) .imm)) (.pr (.own (.pr (.own .imm) .imm)) .imm)) (.pr (.pr (.own (.own .imm)) (.pr .imm (.pr (.own .imm) .imm))) (.pr .imm (.pr .imm (.pr .imm (.pr .imm (.pr .imm (.pr (.own (.own .imm)) .imm)))))))))))))), (66, (.own .imm))], live := [], ord := [], con := [((9, [.one, .one]), laws_eqKeyS.con N), ((10, [.one, .one]), laws_eqWidgetS.con N), ((11, [.one, .one]), laws_eqInt64SS.con N), ((12, [.one, .one]), laws_eqBuf.con N), ((13, [.one, .one]), laws_eqRing.con N), ((14, [.one, .one]), laws_eqUndo.con N), ((15, [.one, .one]), laws_eqHist.con N)], loops := [], joins := [] }
theorem laws_eqEd.cons (N : Nat) : ConsOk Try.prog (laws_eqEd.cfg N).con := (consOk_cons (hb9) (laws_eqKeyS.ok N) (laws_eqKeyS.det N) (consOk_cons (hb10) (laws_eqWidgetS.ok N) (laws_eqWidgetS.det N) (consOk_cons (hb11) (laws_eqInt64SS.ok N) (laws_eqInt64SS.det N) (consOk_cons (hb12) (laws_eqBuf.ok N) (laws_eqBuf.det N) (consOk_cons (hb13) (laws_eqRing.ok N) (laws_eqRing.det N) (consOk_cons (hb14) (laws_eqUndo.ok N) (laws_eqUndo.det N) (consOk_cons (hb15) (laws_eqHist.ok N) (laws_eqHist.det N) consOk_nil)))))))
theorem laws_eqEd.ls (N : Nat) : LoopsOk Try.prog (laws_eqEd.cfg N) (fnBody Try.f6) := loopsL (l := []) (by kernel_rfl) trivial
theorem laws_eqEd.b (N : Nat) (x0 : den (.pair (.sl 57 (.pair (.int .i64) (.pair .str (.pair .str .unit)))) (.pair (.sl 60 (.pair .str (.pair .str .unit))) (.pair (.sl 25 (.sl 2 (.int .i64))) (.pair (.pair (.sl 2 (.int .i64)) (.pair (.int .i64) (.pair (.int .i64) .unit))) (.pair (.pair (.sl 25 (.sl 2 (.int .i64))) (.pair (.int .i64) .unit)) (.pair (.pair (.sl 27 (.pair (.sl 2 (.int .i64)) (.pair (.int .i64) (.pair (.int .i64) .unit)))) (.pair (.sl 27 (.pair (.sl 2 (.int .i64)) (.pair (.int .i64) (.pair (.int .i64) .unit)))) .unit)) (.pair (.pair (.sl 25 (.sl 2 (.int .i64))) (.pair (.int .i64) (.pair (.sl 2 (.int .i64)) .unit))) (.pair (.int .i64) (.pair .str (.pair (.int .i64) (.pair (.int .i64) (.pair (.int .i64) (.pair (.sl 25 (.sl 2 (.int .i64))) .unit)))))))))))))) (x1 : den (.pair (.sl 57 (.pair (.int .i64) (.pair .str (.pair .str .unit)))) (.pair (.sl 60 (.pair .str (.pair .str .unit))) (.pair (.sl 25 (.sl 2 (.int .i64))) (.pair (.pair (.sl 2 (.int .i64)) (.pair (.int .i64) (.pair (.int .i64) .unit))) (.pair (.pair (.sl 25 (.sl 2 (.int .i64))) (.pair (.int .i64) .unit)) (.pair (.pair (.sl 27 (.pair (.sl 2 (.int .i64)) (.pair (.int .i64) (.pair (.int .i64) .unit)))) (.pair (.sl 27 (.pair (.sl 2 (.int .i64)) (.pair (.int .i64) (.pair (.int .i64) .unit)))) .unit)) (.pair (.pair (.sl 25 (.sl 2 (.int .i64))) (.pair (.int .i64) (.pair (.sl 2 (.int .i64)) .unit))) (.pair (.int .i64) (.pair .str (.pair (.int .i64) (.pair (.int .i64) (.pair (.int .i64) (.pair (.sl 25 (.sl 2 (.int .i64))) .unit)))))))))))))) : body (laws_eqEd.cfg N) N Try.f6 [.one, .one] [.v, .v] [(false, .imm)] [⟨(.pair (.sl 57 (.pair (.int .i64) (.pair .str (.pair .str .unit)))) (.pair (.sl 60 (.pair .str (.pair .str .unit))) (.pair (.sl 25 (.sl 2 (.int .i64))) (.pair (.pair (.sl 2 (.int .i64)) (.pair (.int .i64) (.pair (.int .i64) .unit))) (.pair (.pair (.sl 25 (.sl 2 (.int .i64))) (.pair (.int .i64) .unit)) (.pair (.pair (.sl 27 (.pair (.sl 2 (.int .i64)) (.pair (.int .i64) (.pair (.int .i64) .unit)))) (.pair (.sl 27 (.pair (.sl 2 (.int .i64)) (.pair (.int .i64) (.pair (.int .i64) .unit)))) .unit)) (.pair (.pair (.sl 25 (.sl 2 (.int .i64))) (.pair (.int .i64) (.pair (.sl 2 (.int .i64)) .unit))) (.pair (.int .i64) (.pair .str (.pair (.int .i64) (.pair (.int .i64) (.pair (.int .i64) (.pair (.sl 25 (.sl 2 (.int .i64))) .unit))))))))))))), .imm, x0⟩, ⟨(.pair (.sl 57 (.pair (.int .i64) (.pair .str (.pair .str .unit)))) (.pair (.sl 60 (.pair .str (.pair .str .unit))) (.pair (.sl 25 (.sl 2 (.int .i64))) (.pair (.pair (.sl 2 (.int .i64)) (.pair (.int .i64) (.pair (.int .i64) .unit))) (.pair (.pair (.sl 25 (.sl 2 (.int .i64))) (.pair (.int .i64) .unit)) (.pair (.pair (.sl 27 (.pair (.sl 2 (.int .i64)) (.pair (.int .i64) (.pair (.int .i64) .unit)))) (.pair (.sl 27 (.pair (.sl 2 (.int .i64)) (.pair (.int .i64) (.pair (.int .i64) .unit)))) .unit)) (.pair (.pair (.sl 25 (.sl 2 (.int .i64))) (.pair (.int .i64) (.pair (.sl 2 (.int .i64)) .unit))) (.pair (.int .i64) (.pair .str (.pair (.int .i64) (.pair (.int .i64) (.pair (.int .i64) (.pair (.sl 25 (.sl 2 (.int .i64))) .unit))))))))))))), .imm, x1⟩] (fun r i => some (r, i)) = bindO (laws_eqEd N x0 x1) fun r => some ([⟨.bool, .imm, r⟩], []) := by
  show _ = bindF _ _
  conv => rhs; simp only [laws_eqEd, bindF_ifB, bindF_bindO, bindF_pure, bindF_none, bindF_onSum]
  kernel_rfl
theorem laws_eqEd.ok (N : Nat) : ConOk Try.prog 6 [.one, .one] (laws_eqEd.con N) := by
  refine conOk_mk (g := laws_eqEd.cfg N) (N := N) (res := [(false, .imm)]) tys_ok (laws_eqEd.cons N) mixed Try.func6 (laws_eqEd.ls N) rfl rfl ?_
  intro ds R k y h
  cases ds with
  | nil => exact none_some h
  | cons d0 ds =>
  cases ds with
  | nil => exact none_some h
  | cons d1 ds =>
  cases ds with
  | cons _ _ => exact none_some h
  | nil =>
  have h0 : (castDm (.pair (.sl 57 (.pair (.int .i64) (.pair .str (.pair .str .unit)))) (.pair (.sl 60 (.pair .str (.pair .str .unit))) (.pair (.sl 25 (.sl 2 (.int .i64))) (.pair (.pair (.sl 2 (.int .i64)) (.pair (.int .i64) (.pair (.int .i64) .unit))) (.pair (.pair (.sl 25 (.sl 2 (.int .i64))) (.pair (.int .i64) .unit)) (.pair (.pair (.sl 27 (.pair (.sl 2 (.int .i64)) (.pair (.int .i64) (.pair (.int .i64) .unit)))) (.pair (.sl 27 (.pair (.sl 2 (.int .i64)) (.pair (.int .i64) (.pair (.int .i64) .unit)))) .unit)) (.pair (.pair (.sl 25 (.sl 2 (.int .i64))) (.pair (.int .i64) (.pair (.sl 2 (.int .i64)) .unit))) (.pair (.int .i64) (.pair .str (.pair (.int .i64) (.pair (.int .i64) (.pair (.int .i64) (.pair (.sl 25 (.sl 2 (.int .i64))) .unit))))))))))))) .imm d0 fun x0 => castDm (.pair (.sl 57 (.pair (.int .i64) (.pair .str (.pair .str .unit)))) (.pair (.sl 60 (.pair .str (.pair .str .unit))) (.pair (.sl 25 (.sl 2 (.int .i64))) (.pair (.pair (.sl 2 (.int .i64)) (.pair (.int .i64) (.pair (.int .i64) .unit))) (.pair (.pair (.sl 25 (.sl 2 (.int .i64))) (.pair (.int .i64) .unit)) (.pair (.pair (.sl 27 (.pair (.sl 2 (.int .i64)) (.pair (.int .i64) (.pair (.int .i64) .unit)))) (.pair (.sl 27 (.pair (.sl 2 (.int .i64)) (.pair (.int .i64) (.pair (.int .i64) .unit)))) .unit)) (.pair (.pair (.sl 25 (.sl 2 (.int .i64))) (.pair (.int .i64) (.pair (.sl 2 (.int .i64)) .unit))) (.pair (.int .i64) (.pair .str (.pair (.int .i64) (.pair (.int .i64) (.pair (.int .i64) (.pair (.sl 25 (.sl 2 (.int .i64))) .unit))))))))))))) .imm d1 fun x1 => bindO (laws_eqEd N x0 x1) fun r => k [⟨.bool, .imm, r⟩] []) = some y := h
  clear h
  obtain ⟨x0, rfl, h1⟩ := castDm_eq h0
  obtain ⟨x1, rfl, h2⟩ := castDm_eq h1
  exact con_fin (laws_eqEd.b N x0 x1) h2
theorem laws_eqEd.det (N : Nat) : ConDet (laws_eqEd.con N) := by
  intro ds R k y h
  cases ds with
  | nil => exact none_some h
  | cons d0 ds =>
  cases ds with
  | nil => exact none_some h
  | cons d1 ds =>
  cases ds with
  | cons _ _ => exact none_some h
  | nil =>
  have h0 : (castDm (.pair (.sl 57 (.pair (.int .i64) (.pair .str (.pair .str .unit)))) (.pair (.sl 60 (.pair .str (.pair .str .unit))) (.pair (.sl 25 (.sl 2 (.int .i64))) (.pair (.pair (.sl 2 (.int .i64)) (.pair (.int .i64) (.pair (.int .i64) .unit))) (.pair (.pair (.sl 25 (.sl 2 (.int .i64))) (.pair (.int .i64) .unit)) (.pair (.pair (.sl 27 (.pair (.sl 2 (.int .i64)) (.pair (.int .i64) (.pair (.int .i64) .unit)))) (.pair (.sl 27 (.pair (.sl 2 (.int .i64)) (.pair (.int .i64) (.pair (.int .i64) .unit)))) .unit)) (.pair (.pair (.sl 25 (.sl 2 (.int .i64))) (.pair (.int .i64) (.pair (.sl 2 (.int .i64)) .unit))) (.pair (.int .i64) (.pair .str (.pair (.int .i64) (.pair (.int .i64) (.pair (.int .i64) (.pair (.sl 25 (.sl 2 (.int .i64))) .unit))))))))))))) .imm d0 fun x0 => castDm (.pair (.sl 57 (.pair (.int .i64) (.pair .str (.pair .str .unit)))) (.pair (.sl 60 (.pair .str (.pair .str .unit))) (.pair (.sl 25 (.sl 2 (.int .i64))) (.pair (.pair (.sl 2 (.int .i64)) (.pair (.int .i64) (.pair (.int .i64) .unit))) (.pair (.pair (.sl 25 (.sl 2 (.int .i64))) (.pair (.int .i64) .unit)) (.pair (.pair (.sl 27 (.pair (.sl 2 (.int .i64)) (.pair (.int .i64) (.pair (.int .i64) .unit)))) (.pair (.sl 27 (.pair (.sl 2 (.int .i64)) (.pair (.int .i64) (.pair (.int .i64) .unit)))) .unit)) (.pair (.pair (.sl 25 (.sl 2 (.int .i64))) (.pair (.int .i64) (.pair (.sl 2 (.int .i64)) .unit))) (.pair (.int .i64) (.pair .str (.pair (.int .i64) (.pair (.int .i64) (.pair (.int .i64) (.pair (.sl 25 (.sl 2 (.int .i64))) .unit))))))))))))) .imm d1 fun x1 => bindO (laws_eqEd N x0 x1) fun r => k [⟨.bool, .imm, r⟩] []) = some y := h
  clear h
  obtain ⟨x0, rfl, h1⟩ := castDm_eq h0
  obtain ⟨x1, rfl, h2⟩ := castDm_eq h1
  obtain ⟨r, e, h⟩ := bindO_some h2
  refine ⟨_, _, h, fun k' => ?_⟩
  show (castDm (.pair (.sl 57 (.pair (.int .i64) (.pair .str (.pair .str .unit)))) (.pair (.sl 60 (.pair .str (.pair .str .unit))) (.pair (.sl 25 (.sl 2 (.int .i64))) (.pair (.pair (.sl 2 (.int .i64)) (.pair (.int .i64) (.pair (.int .i64) .unit))) (.pair (.pair (.sl 25 (.sl 2 (.int .i64))) (.pair (.int .i64) .unit)) (.pair (.pair (.sl 27 (.pair (.sl 2 (.int .i64)) (.pair (.int .i64) (.pair (.int .i64) .unit)))) (.pair (.sl 27 (.pair (.sl 2 (.int .i64)) (.pair (.int .i64) (.pair (.int .i64) .unit)))) .unit)) (.pair (.pair (.sl 25 (.sl 2 (.int .i64))) (.pair (.int .i64) (.pair (.sl 2 (.int .i64)) .unit))) (.pair (.int .i64) (.pair .str (.pair (.int .i64) (.pair (.int .i64) (.pair (.int .i64) (.pair (.sl 25 (.sl 2 (.int .i64))) .unit))))))))))))) .imm (⟨(.pair (.sl 57 (.pair (.int .i64) (.pair .str (.pair .str .unit)))) (.pair (.sl 60 (.pair .str (.pair .str .unit))) (.pair (.sl 25 (.sl 2 (.int .i64))) (.pair (.pair (.sl 2 (.int .i64)) (.pair (.int .i64) (.pair (.int .i64) .unit))) (.pair (.pair (.sl 25 (.sl 2 (.int .i64))) (.pair (.int .i64) .unit)) (.pair (.pair (.sl 27 (.pair (.sl 2 (.int .i64)) (.pair (.int .i64) (.pair (.int .i64) .unit)))) (.pair (.sl 27 (.pair (.sl 2 (.int .i64)) (.pair (.int .i64) (.pair (.int .i64) .unit)))) .unit)) (.pair (.pair (.sl 25 (.sl 2 (.int .i64))) (.pair (.int .i64) (.pair (.sl 2 (.int .i64)) .unit))) (.pair (.int .i64) (.pair .str (.pair (.int .i64) (.pair (.int .i64) (.pair (.int .i64) (.pair (.sl 25 (.sl 2 (.int .i64))) .unit))))))))))))), .imm, x0⟩ : Dy) fun x0 => castDm (.pair (.sl 57 (.pair (.int .i64) (.pair .str (.pair .str .unit)))) (.pair (.sl 60 (.pair .str (.pair .str .unit))) (.pair (.sl 25 (.sl 2 (.int .i64))) (.pair (.pair (.sl 2 (.int .i64)) (.pair (.int .i64) (.pair (.int .i64) .unit))) (.pair (.pair (.sl 25 (.sl 2 (.int .i64))) (.pair (.int .i64) .unit)) (.pair (.pair (.sl 27 (.pair (.sl 2 (.int .i64)) (.pair (.int .i64) (.pair (.int .i64) .unit)))) (.pair (.sl 27 (.pair (.sl 2 (.int .i64)) (.pair (.int .i64) (.pair (.int .i64) .unit)))) .unit)) (.pair (.pair (.sl 25 (.sl 2 (.int .i64))) (.pair (.int .i64) (.pair (.sl 2 (.int .i64)) .unit))) (.pair (.int .i64) (.pair .str (.pair (.int .i64) (.pair (.int .i64) (.pair (.int .i64) (.pair (.sl 25 (.sl 2 (.int .i64))) .unit))))))))))))) .imm (⟨(.pair (.sl 57 (.pair (.int .i64) (.pair .str (.pair .str .unit)))) (.pair (.sl 60 (.pair .str (.pair .str .unit))) (.pair (.sl 25 (.sl 2 (.int .i64))) (.pair (.pair (.sl 2 (.int .i64)) (.pair (.int .i64) (.pair (.int .i64) .unit))) (.pair (.pair (.sl 25 (.sl 2 (.int .i64))) (.pair (.int .i64) .unit)) (.pair (.pair (.sl 27 (.pair (.sl 2 (.int .i64)) (.pair (.int .i64) (.pair (.int .i64) .unit)))) (.pair (.sl 27 (.pair (.sl 2 (.int .i64)) (.pair (.int .i64) (.pair (.int .i64) .unit)))) .unit)) (.pair (.pair (.sl 25 (.sl 2 (.int .i64))) (.pair (.int .i64) (.pair (.sl 2 (.int .i64)) .unit))) (.pair (.int .i64) (.pair .str (.pair (.int .i64) (.pair (.int .i64) (.pair (.int .i64) (.pair (.sl 25 (.sl 2 (.int .i64))) .unit))))))))))))), .imm, x1⟩ : Dy) fun x1 => bindO (laws_eqEd N x0 x1) fun r => k' [⟨.bool, .imm, r⟩] []) = _
  simp only [castDm_self]
  rw [e]
  rfl
def laws_markText.sk4 : Skel := ⟨[.pv (.int .i64), .dead, .dead, .pv .str, .dead, .dead, .dead, .dead, .dead, .dead, .dead, .dead, .dead, .dead, .dead, .dead, .dead, .dead, .dead, .dead], []⟩
def laws_markText.xs4 : List XS := [⟨.exit 0, [3], ⟨[.dead, .dead, .dead, .pv .str, .dead, .dead, .dead, .dead, .dead, .dead, .dead, .dead, .dead, .dead, .dead, .dead, .dead, .dead, .dead, .dead], []⟩⟩]
noncomputable def laws_markText.con (N : Nat) : Con := { modes := [.v], ptrs := [false], fn := fun ds k => match ds with | [d0] => castDm (.int .i64) .imm d0 fun x0 => bindO (laws_markText N x0) fun r => k [⟨.str, .imm, r⟩] [] | _ => none }
noncomputable def laws_markText.cfg (N : Nat) : Cfg := { ty := tys, keep := [], flt := [], elm := [(22, (.own .imm)), (23, (.own .imm)), (24, (.own (.own .imm))), (25, (.own .imm)), (26, (.pr (.own .imm) .imm)), (27, (.pr (.own .imm) .imm)), (28, (.pr (.own (.own .imm)) .imm)), (29, (.pr (.own (.own .imm)) .imm)), (30, (.own (.pr (.own .imm) .imm))), (31, (.pr (.own (.pr (.own .imm) .imm)) (.pr (.own (.pr (.own .imm) .imm)) .imm))), (32, (.pr (.own (.pr (.own .imm) .imm)) (.pr (.own (.pr (.own .imm) .imm)) .imm))), (33, (.pr (.own (.own .imm)) (.pr .imm (.pr (.own .imm) .imm)))), (34, (.pr (.own (.own .imm)) (.pr .imm (.pr (.own .imm) .imm)))), (35, (.pr (.own .imm) (.pr (.own .imm) (.pr (.own (.own .imm)) (.pr (.pr (.own .imm) .imm) (.pr (.pr (.own (.own .imm)) .imm) (.pr (.pr (.own (.pr (.own .imm) .imm)) (.pr (.own (.pr (.own .imm) .imm)) .imm)) (.pr (.pr (.own (.own .imm)) (.pr .imm (.pr (.own .imm) .imm))) (.pr .imm (.pr .imm (.pr .imm (.pr .imm (.pr .imm (.pr (.own (.own .imm)) .imm)))))))))))))), (36, (.pr (.own .imm) (.pr (.own .imm) (.pr (.own (.own .imm)) (.pr (.pr (.own .imm) .imm) (.pr (.pr (.own (.own .imm)) .imm) (.pr (.pr (.own (.pr (.own .imm) .imm)) (.pr (.own (.pr (.own .imm) .imm)) .imm)) (.pr (.pr (.own (.own .imm)) (.pr .imm (.pr (.own .imm) .imm))) (.pr .imm (.pr .imm (.pr .imm (.pr .imm (.pr .imm (.pr (.own (.own .imm)) .imm)))))))))))))), (66, (.own .imm))], live := [(4, [0, 3])], ord := [], con := [], loops := [(4, loopCon N laws_markText.sk4 laws_markText.xs4 (fun {R} => laws_markText.l4 (R := R) N))], joins := [] }
theorem laws_markText.cons (N : Nat) : ConsOk Try.prog (laws_markText.cfg N).con := consOk_nil
theorem laws_markText.h4 {R : Type} (N : Nat) (d : laws_markText.sk4.D) (kn : laws_markText.sk4.D → Option R) (kx : XD laws_markText.xs4 → Option R) : roundK (laws_markText.cfg N) N (nthLoop (fnBody Try.f34) 0) laws_markText.sk4 laws_markText.xs4 d kn kx = laws_markText.l4 N d kn kx := by kernel_rfl
theorem laws_markText.i4 (N : Nat) : LoopsOk Try.prog (laws_markText.cfg N) (nthLoop (fnBody Try.f34) 0) := loopsL (l := []) (by kernel_rfl) trivial
theorem laws_markText.o4 (N : Nat) : LoopOk Try.prog (nthLoop (fnBody Try.f34) 0) (loopCon N laws_markText.sk4 laws_markText.xs4 (fun {R} => laws_markText.l4 (R := R) N)) := loop_ok (g := laws_markText.cfg N) tys_ok (laws_markText.cons N) mixed (laws_markText.i4 N) (fun d kn kx => laws_markText.h4 N d kn kx)
theorem laws_markText.ls (N : Nat) : LoopsOk Try.prog (laws_markText.cfg N) (fnBody Try.f34) := loopsL (l := [nthLoop (fnBody Try.f34) 0]) (by kernel_rfl) ⟨loopOne (L0 := loopCon N laws_markText.sk4 laws_markText.xs4 (fun {R} => laws_markText.l4 (R := R) N)) (id := 4) (by kernel_rfl) (by kernel_rfl) (laws_markText.o4 N), trivial⟩
theorem laws_markText.q4 {R R' : Type} {N n : Nat} {d} {k} {g : R → Option R'} : bindF (loopP (laws_markText.l4 N) n d k) g = loopP (laws_markText.l4 N) n d fun e => bindF (k e) g := bindF_loopP (fun d kn kx => by simp only [laws_markText.l4, bindF_ifB, bindF_bindO, bindF_pure, bindF_none, bindF_onSum]) n d k
theorem laws_markText.b (N : Nat) (x0 : den (.int .i64)) : body (laws_markText.cfg N) N Try.f34 [.one] [.v] [(false, .imm)] [⟨(.int .i64), .imm, x0⟩] (fun r i => some (r, i)) = bindO (laws_markText N x0) fun r => some ([⟨.str, .imm, r⟩], []) := by
  show _ = bindF _ _
  conv => rhs; simp only [laws_markText, bindF_ifB, bindF_bindO, bindF_pure, bindF_none, bindF_onSum, laws_markText.q4]
  kernel_rfl
theorem laws_markText.ok (N : Nat) : ConOk Try.prog 34 [.one] (laws_markText.con N) := by
  refine conOk_mk (g := laws_markText.cfg N) (N := N) (res := [(false, .imm)]) tys_ok (laws_markText.cons N) mixed Try.func34 (laws_markText.ls N) rfl rfl ?_
  intro ds R k y h
  cases ds with
  | nil => exact none_some h
  | cons d0 ds =>
  cases ds with
  | cons _ _ => exact none_some h
  | nil =>
  have h0 : (castDm (.int .i64) .imm d0 fun x0 => bindO (laws_markText N x0) fun r => k [⟨.str, .imm, r⟩] []) = some y := h
  clear h
  obtain ⟨x0, rfl, h1⟩ := castDm_eq h0
  exact con_fin (laws_markText.b N x0) h1
theorem laws_markText.det (N : Nat) : ConDet (laws_markText.con N) := by
  intro ds R k y h
  cases ds with
  | nil => exact none_some h
  | cons d0 ds =>
  cases ds with
  | cons _ _ => exact none_some h
  | nil =>
  have h0 : (castDm (.int .i64) .imm d0 fun x0 => bindO (laws_markText N x0) fun r => k [⟨.str, .imm, r⟩] []) = some y := h
  clear h
  obtain ⟨x0, rfl, h1⟩ := castDm_eq h0
  obtain ⟨r, e, h⟩ := bindO_some h1
  refine ⟨_, _, h, fun k' => ?_⟩
  show (castDm (.int .i64) .imm (⟨(.int .i64), .imm, x0⟩ : Dy) fun x0 => bindO (laws_markText N x0) fun r => k' [⟨.str, .imm, r⟩] []) = _
  simp only [castDm_self]
  rw [e]
  rfl
def laws_markKeyS.sk2 : Skel := ⟨[.ov 0 [], .pv (.int .i64), .dead, .dead, .dead, .pv (.int .i64), .dead, .dead, .dead, .dead, .dead, .dead, .dead, .dead, .dead, .dead, .dead, .dead, .dead, .dead, .dead, .dead, .dead, .dead, .dead, .dead, .dead, .dead, .dead, .dead, .dead, .dead, .dead, .dead, .dead, .dead], [⟨0, (.sl 57 (.pair (.int .i64) (.pair .str (.pair .str .unit)))), (.own .imm), false, true⟩]⟩
def laws_markKeyS.xs2 : List XS := [⟨.exit 0, [1], ⟨[.dead, .pv (.int .i64), .dead, .dead, .dead, .dead, .dead, .dead, .dead, .dead, .dead, .dead, .dead, .dead, .dead, .dead, .dead, .dead, .dead, .dead, .dead, .dead, .dead, .dead, .dead, .dead, .dead, .dead, .dead, .dead, .dead, .dead, .dead, .dead, .dead, .dead], [⟨0, (.sl 57 (.pair (.int .i64) (.pair .str (.pair .str .unit)))), (.own .imm), false, true⟩]⟩⟩]
noncomputable def laws_markKeyS.con (N : Nat) : Con := { modes := [.iov, .v], ptrs := [false], fn := fun ds k => match ds with | [d0, d1] => castDm (.sl 57 (.pair (.int .i64) (.pair .str (.pair .str .unit)))) (.own .imm) d0 fun x0 => castDm (.int .i64) .imm d1 fun x1 => bindO (laws_markKeyS N x0 x1) fun r => k [⟨(.int .i64), .imm, r.1⟩] [⟨(.sl 57 (.pair (.int .i64) (.pair .str (.pair .str .unit)))), (.own .imm), r.2⟩] | _ => none }
noncomputable def laws_markKeyS.cfg (N : Nat) : Cfg := { ty := tys, keep := [22, 30], flt := [], elm := [(22, (.own .imm)), (23, (.own .imm)), (24, (.own (.own .imm))), (25, (.own .imm)), (26, (.pr (.own .imm) .imm)), (27, (.pr (.own .imm) .imm)), (28, (.pr (.own (.own .imm)) .imm)), (29, (.pr (.own (.own .imm)) .imm)), (30, (.own (.pr (.own .imm) .imm))), (31, (.pr (.own (.pr (.own .imm) .imm)) (.pr (.own (.pr (.own .imm) .imm)) .imm))), (32, (.pr (.own (.pr (.own .imm) .imm)) (.pr (.own (.pr (.own .imm) .imm)) .imm))), (33, (.pr (.own (.own .imm)) (.pr .imm (.pr (.own .imm) .imm)))), (34, (.pr (.own (.own .imm)) (.pr .imm (.pr (.own .imm) .imm)))), (35, (.pr (.own .imm) (.pr (.own .imm) (.pr (.own (.own .imm)) (.pr (.pr (.own .imm) .imm) (.pr (.pr (.own (.own .imm)) .imm) (.pr (.pr (.own (.pr (.own .imm) .imm)) (.pr (.own (.pr (.own .imm) .imm)) .imm)) (.pr (.pr (.own (.own .imm)) (.pr .imm (.pr (.own .imm) .imm))) (.pr .imm (.pr .imm (.pr .imm (.pr .imm (.pr .imm (.pr (.own (.own .imm)) .imm)))))))))))))), (36, (.pr (.own .imm) (.pr (.own .imm) (.pr (.own (.own .imm)) (.pr (.pr (.own .imm) .imm) (.pr (.pr (.own (.own .imm)) .imm) (.pr (.pr (.own (.pr (.own .imm) .imm)) (.pr (.own (.pr (.own .imm) .imm)) .imm)) (.pr (.pr (.own (.own .imm)) (.pr .imm (.pr (.own .imm) .imm))) (.pr .imm (.pr .imm (.pr .imm (.pr .imm (.pr .imm (.pr (.own (.own .imm)) .imm)))))))))))))), (66, (.own .imm))], live := [(2, [0, 1, 5])], ord := [], con := [((34, [.one]), laws_markText.con N)], loops := [(2, loopCon N laws_markKeyS.sk2 laws_markKeyS.xs2 (fun {R} => laws_markKeyS.l2 (R := R) N))], joins := [] }
theorem laws_markKeyS.cons (N : Nat) : ConsOk Try.prog (laws_markKeyS.cfg N).con := (consOk_cons (hb34) (laws_markText.ok N) (laws_markText.det N) consOk_nil)
theorem laws_markKeyS.h2 {R : Type} (N : Nat) (d : laws_markKeyS.sk2.D) (kn : laws_markKeyS.sk2.D → Option R) (kx : XD laws_markKeyS.xs2 → Option R) : roundK (laws_markKeyS.cfg N) N (nthLoop (fnBody Try.f16) 0) laws_markKeyS.sk2 laws_markKeyS.xs2 d kn kx = laws_markKeyS.l2 N d kn kx := by kernel_rfl
theorem laws_markKeyS.i2 (N : Nat) : LoopsOk Try.prog (laws_markKeyS.cfg N) (nthLoop (fnBody Try.f16) 0) := loopsL (l := []) (by kernel_rfl) trivial
theorem laws_markKeyS.o2 (N : Nat) : LoopOk Try.prog (nthLoop (fnBody Try.f16) 0) (loopCon N laws_markKeyS.sk2 laws_markKeyS.xs2 (fun {R} => laws_markKeyS.l2 (R := R) N)) := loop_ok (g := laws_markKeyS.cfg N) tys_ok (laws_markKeyS.cons N) mixed (laws_markKeyS.i2 N) (fun d kn kx => laws_markKeyS.h2 N d kn kx)
theorem laws_markKeyS.ls (N : Nat) : LoopsOk Try.prog (laws_markKeyS.cfg N) (fnBody Try.f16) := loopsL (l := [nthLoop (fnBody Try.f16) 0]) (by kernel_rfl) ⟨loopOne (L0 := loopCon N laws_markKeyS.sk2 laws_markKeyS.xs2 (fun {R} => laws_markKeyS.l2 (R := R) N)) (id := 2) (by kernel_rfl) (by kernel_rfl) (laws_markKeyS.o2 N), trivial⟩
theorem laws_markKeyS.q2 {R R' : Type} {N n : Nat} {d} {k} {g : R → Option R'} : bindF (loopP (laws_markKeyS.l2 N) n d k) g = loopP (laws_markKeyS.l2 N) n d fun e => bindF (k e) g := bindF_loopP (fun d kn kx => by simp only [laws_markKeyS.l2, bindF_ifB, bindF_bindO, bindF_pure, bindF_none, bindF_onSum]) n d k
theorem laws_markKeyS.b (N : Nat) (x0 : den (.sl 57 (.pair (.int .i64) (.pair .str (.pair .str .unit))))) (x1 : den (.int .i64)) : body (laws_markKeyS.cfg N) N Try.f16 [.one, .one] [.iov, .v] [(false, .imm)] [⟨(.sl 57 (.pair (.int .i64) (.pair .str (.pair .str .unit)))), (.own .imm), x0⟩, ⟨(.int .i64), .imm, x1⟩] (fun r i => some (r, i)) = bindO (laws_markKeyS N x0 x1) fun r => some ([⟨(.int .i64), .imm, r.1⟩], [⟨(.sl 57 (.pair (.int .i64) (.pair .str (.pair .str .unit)))), (.own .imm), r.2⟩]) := by
  show _ = bindF _ _
  conv => rhs; simp only [laws_markKeyS, bindF_ifB, bindF_bindO, bindF_pure, bindF_none, bindF_onSum, laws_markKeyS.q2]
  kernel_rfl
theorem laws_markKeyS.ok (N : Nat) : ConOk Try.prog 16 [.one, .one] (laws_markKeyS.con N) := by
  refine conOk_mk (g := laws_markKeyS.cfg N) (N := N) (res := [(false, .imm)]) tys_ok (laws_markKeyS.cons N) mixed Try.func16 (laws_markKeyS.ls N) rfl rfl ?_
  intro ds R k y h
  cases ds with
  | nil => exact none_some h
  | cons d0 ds =>
  cases ds with
  | nil => exact none_some h
  | cons d1 ds =>
  cases ds with
  | cons _ _ => exact none_some h
  | nil =>
  have h0 : (castDm (.sl 57 (.pair (.int .i64) (.pair .str (.pair .str .unit)))) (.own .imm) d0 fun x0 => castDm (.int .i64) .imm d1 fun x1 => bindO (laws_markKeyS N x0 x1) fun r => k [⟨(.int .i64), .imm, r.1⟩] [⟨(.sl 57 (.pair (.int .i64) (.pair .str (.pair .str .unit)))), (.own .imm), r.2⟩]) = some y := h
  clear h
  obtain ⟨x0, rfl, h1⟩ := castDm_eq h0
  obtain ⟨x1, rfl, h2⟩ := castDm_eq h1
  exact con_fin (laws_markKeyS.b N x0 x1) h2
theorem laws_markKeyS.det (N : Nat) : ConDet (laws_markKeyS.con N) := by
  intro ds R k y h
  cases ds with
  | nil => exact none_some h
  | cons d0 ds =>
  cases ds with
  | nil => exact none_some h
  | cons d1 ds =>
  cases ds with
  | cons _ _ => exact none_some h
  | nil =>
  have h0 : (castDm (.sl 57 (.pair (.int .i64) (.pair .str (.pair .str .unit)))) (.own .imm) d0 fun x0 => castDm (.int .i64) .imm d1 fun x1 => bindO (laws_markKeyS N x0 x1) fun r => k [⟨(.int .i64), .imm, r.1⟩] [⟨(.sl 57 (.pair (.int .i64) (.pair .str (.pair .str .unit)))), (.own .imm), r.2⟩]) = some y := h
  clear h
  obtain ⟨x0, rfl, h1⟩ := castDm_eq h0
  obtain ⟨x1, rfl, h2⟩ := castDm_eq h1
  obtain ⟨r, e, h⟩ := bindO_some h2
  refine ⟨_, _, h, fun k' => ?_⟩
  show (castDm (.sl 57 (.pair (.int .i64) (.pair .str (.pair .str .unit)))) (.own .imm) (⟨(.sl 57 (.pair (.int .i64) (.pair .str (.pair .str .unit)))), (.own .imm), x0⟩ : Dy) fun x0 => castDm (.int .i64) .imm (⟨(.int .i64), .imm, x1⟩ : Dy) fun x1 => bindO (laws_markKeyS N x0 x1) fun r => k' [⟨(.int .i64), .imm, r.1⟩] [⟨(.sl 57 (.pair (.int .i64) (.pair .str (.pair .str .unit)))), (.own .imm), r.2⟩]) = _
  simp only [castDm_self]
  rw [e]
  rfl
def laws_markWidgetS.sk2 : Skel := ⟨[.ov 0 [], .pv (.int .i64), .dead, .dead, .dead, .pv (.int .i64), .dead, .dead, .dead, .dead, .dead, .dead, .dead, .dead, .dead, .dead, .dead, .dead, .dead, .dead, .dead, .dead, .dead, .dead, .dead, .dead, .dead, .dead, .dead], [⟨0, (.sl 60 (.pair .str (.pair .str .unit))), (.own .imm), false, true⟩]⟩
def laws_markWidgetS.xs2 : List XS := [⟨.exit 0, [1], ⟨[.dead, .pv (.int .i64), .dead, .dead, .dead, .dead, .dead, .dead, .dead, .dead, .dead, .dead, .dead, .dead, .dead, .dead, .dead, .dead, .dead, .dead, .dead, .dead, .dead, .dead, .dead, .dead, .dead, .dead, .dead], [⟨0, (.sl 60 (.pair .str (.pair .str .unit))), (.own .imm), false, true⟩]⟩⟩]
noncomputable def laws_markWidgetS.con (N : Nat) : Con := { modes := [.iov, .v], ptrs := [false], fn := fun ds k => match ds with | [d0, d1] => castDm (.sl 60 (.pair .str (.pair .str .unit))) (.own .imm) d0 fun x0 => castDm (.int .i64) .imm d1 fun x1 => bindO (laws_markWidgetS N x0 x1) fun r => k [⟨(.int .i64), .imm, r.1⟩] [⟨(.sl 60 (.pair .str (.pair .str .unit))), (.own .imm), r.2⟩] | _ => none }
noncomputable def laws_markWidgetS.cfg (N : Nat) : Cfg := { ty := tys, keep := [15, 23], flt := [], elm := [(22, (.own .imm)), (23, (.own .imm)), (24, (.own (.own .imm))), (25, (.own .imm)), (26, (.pr (.own .imm) .imm)), (27, (.pr (.own .imm) .imm)), (28, (.pr (.own (.own .imm)) .imm)), (29, (.pr (.own (.own .imm)) .imm)), (30, (.own (.pr (.own .imm) .imm))), (31, (.pr (.own (.pr (.own .imm) .imm)) (.pr (.own (.pr (.own .imm) .imm)) .imm))), (32, (.pr (.own (.pr (.own .imm) .imm)) (.pr (.own (.pr (.own .imm) .imm)) .imm))), (33, (.pr (.own (.own .imm)) (.pr .imm (.pr (.own .imm) .imm)))), (34, (.pr (.own (.own .imm)) (.pr .imm (.pr (.own .imm) .imm)))), (35, (.pr (.own .imm) (.pr (.own .imm) (.pr (.own (.own .imm)) (.pr (.pr (.own .imm) .imm) (.pr (.pr (.own (.own .imm)) .imm) (.pr (.pr (.own (.pr (.own .imm) .imm)) (.pr (.own (.pr (.own .imm) .imm)) .imm)) (.pr (.pr (.own (.own .imm)) (.pr .imm (.pr (.own .imm) .imm))) (.pr .imm (.pr .imm (.pr .imm (.pr .imm (.pr .imm (.pr (.own (.own .imm)) .imm)))))))))))))), (36, (.pr (.own .imm) (.pr (.own .imm) (.pr (.own (.own .imm)) (.pr (.pr (.own .imm) .imm) (.pr (.pr (.own (.own .imm)) .imm) (.pr (.pr (.own (.pr (.own .imm) .imm)) (.pr (.own (.pr (.own .imm) .imm)) .imm)) (.pr (.pr (.own (.own .imm)) (.pr .imm (.pr (.own .imm) .imm))) (.pr .imm (.pr .imm (.pr .imm (.pr .imm (.pr .imm (.pr (.own (.own .imm)) .imm)))))))))))))), (66, (.own .imm))], live := [(2, [0, 1, 5])], ord := [], con := [((34, [.one]), laws_markText.con N)], loops := [(2, loopCon N laws_markWidgetS.sk2 laws_markWidgetS.xs2 (fun {R} => laws_markWidgetS.l2 (R := R) N))], joins := [] }
theorem laws_markWidgetS.cons (N : Nat) : ConsOk Try.prog (laws_markWidgetS.cfg N).con := (consOk_cons (hb34) (laws_markText.ok N) (laws_markText.det N) consOk_nil)
theorem laws_markWidgetS.h2 {R : Type} (N : Nat) (d : laws_markWidgetS.sk2.D) (kn : laws_markWidgetS.sk2.D → Option R) (kx : XD laws_markWidgetS.xs2 → Option R) : roundK (laws_markWidgetS.cfg N) N (nthLoop (fnBody Try.f17) 0) laws_markWidgetS.sk2 laws_markWidgetS.xs2 d kn kx = laws_markWidgetS.l2 N d kn kx := by kernel_rfl
theorem laws_markWidgetS.i2 (N : Nat) : LoopsOk Try.prog (laws_markWidgetS.cfg N) (nthLoop (fnBody Try.f17) 0) := loopsL (l := []) (by kernel_rfl) trivial
theorem laws_markWidgetS.o2 (N : Nat) : LoopOk Try.prog (nthLoop (fnBody Try.f17) 0) (loopCon N laws_markWidgetS.sk2 laws_markWidgetS.xs2 (fun {R} => laws_markWidgetS.l2 (R := R) N)) := loop_ok (g := laws_markWidgetS.cfg N) tys_ok (laws_markWidgetS.cons N) mixed (laws_markWidgetS.i2 N) (fun d kn kx => laws_markWidgetS.h2 N d kn kx)
theorem laws_markWidgetS.ls (N : Nat) : LoopsOk Try.prog (laws_markWidgetS.cfg N) (fnBody Try.f17) := loopsL (l := [nthLoop (fnBody Try.f17) 0]) (by kernel_rfl) ⟨loopOne (L0 := loopCon N laws_markWidgetS.sk2 laws_markWidgetS.xs2 (fun {R} => laws_markWidgetS.l2 (R := R) N)) (id := 2) (by kernel_rfl) (by kernel_rfl) (laws_markWidgetS.o2 N), trivial⟩
theorem laws_markWidgetS.q2 {R R' : Type} {N n : Nat} {d} {k} {g : R → Option R'} : bindF (loopP (laws_markWidgetS.l2 N) n d k) g = loopP (laws_markWidgetS.l2 N) n d fun e => bindF (k e) g := bindF_loopP (fun d kn kx => by simp only [laws_markWidgetS.l2, bindF_ifB, bindF_bindO, bindF_pure, bindF_none, bindF_onSum]) n d k
theorem laws_markWidgetS.b (N : Nat) (x0 : den (.sl 60 (.pair .str (.pair .str .unit)))) (x1 : den (.int .i64)) : body (laws_markWidgetS.cfg N) N Try.f17 [.one, .one] [.iov, .v] [(false, .imm)] [⟨(.sl 60 (.pair .str (.pair .str .unit))), (.own .imm), x0⟩, ⟨(.int .i64), .imm, x1⟩] (fun r i => some (r, i)) = bindO (laws_markWidgetS N x0 x1) fun r => some ([⟨(.int .i64), .imm, r.1⟩], [⟨(.sl 60 (.pair .str (.pair .str .unit))), (.own .imm), r.2⟩]) := by
  show _ = bindF _ _
  conv => rhs; simp only [laws_markWidgetS, bindF_ifB, bindF_bindO, bindF_pure, bindF_none, bindF_onSum, laws_markWidgetS.q2]
  kernel_rfl
theorem laws_markWidgetS.ok (N : Nat) : ConOk Try.prog 17 [.one, .one] (laws_markWidgetS.con N) := by
  refine conOk_mk (g := laws_markWidgetS.cfg N) (N := N) (res := [(false, .imm)]) tys_ok (laws_markWidgetS.cons N) mixed Try.func17 (laws_markWidgetS.ls N) rfl rfl ?_
  intro ds R k y h
  cases ds with
  | nil => exact none_some h
  | cons d0 ds =>
  cases ds with
  | nil => exact none_some h
  | cons d1 ds =>
  cases ds with
  | cons _ _ => exact none_some h
  | nil =>
  have h0 : (castDm (.sl 60 (.pair .str (.pair .str .unit))) (.own .imm) d0 fun x0 => castDm (.int .i64) .imm d1 fun x1 => bindO (laws_markWidgetS N x0 x1) fun r => k [⟨(.int .i64), .imm, r.1⟩] [⟨(.sl 60 (.pair .str (.pair .str .unit))), (.own .imm), r.2⟩]) = some y := h
  clear h
  obtain ⟨x0, rfl, h1⟩ := castDm_eq h0
  obtain ⟨x1, rfl, h2⟩ := castDm_eq h1
  exact con_fin (laws_markWidgetS.b N x0 x1) h2
theorem laws_markWidgetS.det (N : Nat) : ConDet (laws_markWidgetS.con N) := by
  intro ds R k y h
  cases ds with
  | nil => exact none_some h
  | cons d0 ds =>
  cases ds with
  | nil => exact none_some h
  | cons d1 ds =>
  cases ds with
  | cons _ _ => exact none_some h
  | nil =>
  have h0 : (castDm (.sl 60 (.pair .str (.pair .str .unit))) (.own .imm) d0 fun x0 => castDm (.int .i64) .imm d1 fun x1 => bindO (laws_markWidgetS N x0 x1) fun r => k [⟨(.int .i64), .imm, r.1⟩] [⟨(.sl 60 (.pair .str (.pair .str .unit))), (.own .imm), r.2⟩]) = some y := h
  clear h
  obtain ⟨x0, rfl, h1⟩ := castDm_eq h0
  obtain ⟨x1, rfl, h2⟩ := castDm_eq h1
  obtain ⟨r, e, h⟩ := bindO_some h2
  refine ⟨_, _, h, fun k' => ?_⟩
  show (castDm (.sl 60 (.pair .str (.pair .str .unit))) (.own .imm) (⟨(.sl 60 (.pair .str (.pair .str .unit))), (.own .imm), x0⟩ : Dy) fun x0 => castDm (.int .i64) .imm (⟨(.int .i64), .imm, x1⟩ : Dy) fun x1 => bindO (laws_markWidgetS N x0 x1) fun r => k' [⟨(.int .i64), .imm, r.1⟩] [⟨(.sl 60 (.pair .str (.pair .str .unit))), (.own .imm), r.2⟩]) = _
  simp only [castDm_self]
  rw [e]
  rfl
def laws_markInt64S.sk2 : Skel := ⟨[.ov 0 [], .pv (.int .i64), .dead, .dead, .dead, .pv (.int .i64), .dead, .dead, .dead, .dead, .dead, .dead, .dead, .dead, .dead, .dead, .dead, .dead, .dead], [⟨0, (.sl 2 (.int .i64)), (.own .imm), false, true⟩]⟩
def laws_markInt64S.xs2 : List XS := [⟨.exit 0, [1], ⟨[.dead, .pv (.int .i64), .dead, .dead, .dead, .dead, .dead, .dead, .dead, .dead, .dead, .dead, .dead, .dead, .dead, .dead, .dead, .dead, .dead], [⟨0, (.sl 2 (.int .i64)), (.own .imm), false, true⟩]⟩⟩]
noncomputable def laws_markInt64S.con (N : Nat) : Con := { modes := [.iov, .v], ptrs := [false], fn := fun ds k => match ds with | [d0, d1] => castDm (.sl 2 (.int .i64)) (.own .imm) d0 fun x0 => castDm (.int .i64) .imm d1 fun x1 => bindO (laws_markInt64S N x0 x1) fun r => k [⟨(.int .i64), .imm, r.1⟩] [⟨(.sl 2 (.int .i64)), (.own .imm), r.2⟩] | _ => none }
noncomputable def laws_markInt64S.cfg (N : Nat) : Cfg := { ty := tys, keep := [], flt := [], elm := [(22, (.own .imm)), (23, (.own .imm)), (24, (.own (.own .imm))), (25, (.own .imm)), (26, (.pr (.own .imm) .imm)), (27, (.pr (.own .imm) .imm)), (28, (.pr (.own (.own .imm)) .imm)), (29, (.pr (.own (.own .imm)) .imm)), (30, (.own (.pr (.own .imm) .imm))), (31, (.pr (.own (.pr (.own .imm) .imm)) (.pr (.own (.pr (.own .imm) .imm)) .imm))), (32, (.pr (.own (.pr (.own .imm) .imm)) (.pr (.own (.pr (.own .imm) .imm)) .imm))), (33, (.pr (.own (.own .imm)) (.pr .imm (.pr (.own .imm) .imm)))), (34, (.pr (.own (.own .imm)) (.pr .imm (.pr (.own .imm) .imm)))), (35, (.pr (.own .imm) (.pr (.own .imm) (.pr (.own (.own .imm)) (.pr (.pr (.own .imm) .imm) (.pr (.pr (.own (.own .imm)) .imm) (.pr (.pr (.own (.pr (.own .imm) .imm)) (.pr (.own (.pr (.own .imm) .imm)) .imm)) (.pr (.pr (.own (.own .imm)) (.pr .imm (.pr (.own .imm) .imm))) (.pr .imm (.pr .imm (.pr .imm (.pr .imm (.pr .imm (.pr (.own (.own .imm)) .imm)))))))))))))), (36, (.pr (.own .imm) (.pr (.own .imm) (.pr (.own (.own .imm)) (.pr (.pr (.own .imm) .imm) (.pr (.pr (.own (.own .imm)) .imm) (.pr (.pr (.own (.pr (.own .imm) .imm)) (.pr (.own (.pr (.own .imm) .imm)) .imm)) (.pr (.pr (.own (.own .imm)) (.pr .imm (.pr (.own .imm) .imm))) (.pr .imm (.pr .imm (.pr .imm (.pr .imm (.pr .imm (.pr (.own (.own .imm)) .imm)))))))))))))), (66, (.own .imm))], live := [(2, [0, 1, 5])], ord := [], con := [], loops := [(2, loopCon N laws_markInt64S.sk2 laws_markInt64S.xs2 (fun {R} => laws_markInt64S.l2 (R := R) N))], joins := [] }
theorem laws_markInt64S.cons (N : Nat) : ConsOk Try.prog (laws_markInt64S.cfg N).con := consOk_nil
theorem laws_markInt64S.h2 {R : Type} (N : Nat) (d : laws_markInt64S.sk2.D) (kn : laws_markInt64S.sk2.D → Option R) (kx : XD laws_markInt64S.xs2 → Option R) : roundK (laws_markInt64S.cfg N) N (nthLoop (fnBody Try.f35) 0) laws_markInt64S.sk2 laws_markInt64S.xs2 d kn kx = laws_markInt64S.l2 N d kn kx := by kernel_rfl
theorem laws_markInt64S.i2 (N : Nat) : LoopsOk Try.prog (laws_markInt64S.cfg N) (nthLoop (fnBody Try.f35) 0) := loopsL (l := []) (by kernel_rfl) trivial
theorem laws_markInt64S.o2 (N : Nat) : LoopOk Try.prog (nthLoop (fnBody Try.f35) 0) (loopCon N laws_markInt64S.sk2 laws_markInt64S.xs2 (fun {R} => laws_markInt64S.l2 (R := R) N)) := loop_ok (g := laws_markInt64S.cfg N) tys_ok (laws_markInt64S.cons N) mixed (laws_markInt64S.i2 N) (fun d kn kx => laws_markInt64S.h2 N d kn kx)
theorem laws_markInt64S.ls (N : Nat) : LoopsOk Try.prog (laws_markInt64S.cfg N) (fnBody Try.f35) := loopsL (l := [nthLoop (fnBody Try.f35) 0]) (by kernel_rfl) ⟨loopOne (L0 := loopCon N laws_markInt64S.sk2 laws_markInt64S.xs2 (fun {R} => laws_markInt64S.l2 (R := R) N)) (id := 2) (by kernel_rfl) (by kernel_rfl) (laws_markInt64S.o2 N), trivial⟩
theorem laws_markInt64S.q2 {R R' : Type} {N n : Nat} {d} {k} {g : R → Option R'} : bindF (loopP (laws_markInt64S.l2 N) n d k) g = loopP (laws_markInt64S.l2 N) n d fun e => bindF (k e) g := bindF_loopP (fun d kn kx => by simp only [laws_markInt64S.l2, bindF_ifB, bindF_bindO, bindF_pure, bindF_none, bindF_onSum]) n d k
theorem laws_markInt64S.b (N : Nat) (x0 : den (.sl 2 (.int .i64))) (x1 : den (.int .i64)) : body (laws_markInt64S.cfg N) N Try.f35 [.one, .one] [.iov, .v] [(false, .imm)] [⟨(.sl 2 (.int .i64)), (.own .imm), x0⟩, ⟨(.int .i64), .imm, x1⟩] (fun r i => some (r, i)) = bindO (laws_markInt64S N x0 x1) fun r => some ([⟨(.int .i64), .imm, r.1⟩], [⟨(.sl 2 (.int .i64)), (.own .imm), r.2⟩]) := by
  show _ = bindF _ _
  conv => rhs; simp only [laws_markInt64S, bindF_ifB, bindF_bindO, bindF_pure, bindF_none, bindF_onSum, laws_markInt64S.q2]
  kernel_rfl
theorem laws_markInt64S.ok (N : Nat) : ConOk Try.prog 35 [.one, .one] (laws_markInt64S.con N) := by
  refine conOk_mk (g := laws_markInt64S.cfg N) (N := N) (res := [(false, .imm)]) tys_ok (laws_markInt64S.cons N) mixed Try.func35 (laws_markInt64S.ls N) rfl rfl ?_
  intro ds R k y h
  cases ds with
  | nil => exact none_some h
  | cons d0 ds =>
  cases ds with
  | nil => exact none_some h
  | cons d1 ds =>
  cases ds with
  | cons _ _ => exact none_some h
  | nil =>
  have h0 : (castDm (.sl 2 (.int .i64)) (.own .imm) d0 fun x0 => castDm (.int .i64) .imm d1 fun x1 => bindO (laws_markInt64S N x0 x1) fun r => k [⟨(.int .i64), .imm, r.1⟩] [⟨(.sl 2 (.int .i64)), (.own .imm), r.2⟩]) = some y := h
  clear h
  obtain ⟨x0, rfl, h1⟩ := castDm_eq h0
  obtain ⟨x1, rfl, h2⟩ := castDm_eq h1
  exact con_fin (laws_markInt64S.b N x0 x1) h2
theorem laws_markInt64S.det (N : Nat) : ConDet (laws_markInt64S.con N) := by
  intro ds R k y h
  cases ds with
  | nil => exact none_some h
  | cons d0 ds =>
  cases ds with
  | nil => exact none_some h
  | cons d1 ds =>
  cases ds with
  | cons _ _ => exact none_some h
  | nil =>
  have h0 : (castDm (.sl 2 (.int .i64)) (.own .imm) d0 fun x0 => castDm (.int .i64) .imm d1 fun x1 => bindO (laws_markInt64S N x0 x1) fun r => k [⟨(.int .i64), .imm, r.1⟩] [⟨(.sl 2 (.int .i64)), (.own .imm), r.2⟩]) = some y := h
  clear h
  obtain ⟨x0, rfl, h1⟩ := castDm_eq h0
  obtain ⟨x1, rfl, h2⟩ := castDm_eq h1
  obtain ⟨r, e, h⟩ := bindO_some h2
  refine ⟨_, _, h, fun k' => ?_⟩
  show (castDm (.sl 2 (.int .i64)) (.own .imm) (⟨(.sl 2 (.int .i64)), (.own .imm), x0⟩ : Dy) fun x0 => castDm (.int .i64) .imm (⟨(.int .i64), .imm, x1⟩ : Dy) fun x1 => bindO (laws_markInt64S N x0 x1) fun r => k' [⟨(.int .i64), .imm, r.1⟩] [⟨(.sl 2 (.int .i64)), (.own .imm), r.2⟩]) = _
  simp only [castDm_self]
  rw [e]
  rfl
def laws_markInt64SS.sk2 : Skel := ⟨[.ov 0 [], .pv (.int .i64), .dead, .dead, .dead, .pv (.int .i64), .dead, .dead, .dead, .dead, .dead, .dead, .dead, .dead, .dead, .dead, .dead, .dead, .dead], [⟨0, (.sl 25 (.sl 2 (.int .i64))), (.own (.own .imm)), false, true⟩]⟩
def laws_markInt64SS.xs2 : List XS := [⟨.exit 0, [1], ⟨[.dead, .pv (.int .i64), .dead, .dead, .dead, .dead, .dead, .dead, .dead, .dead, .dead, .dead, .dead, .dead, .dead, .dead, .dead, .dead, .dead], [⟨0, (.sl 25 (.sl 2 (.int .i64))), (.own (.own .imm)), false, true⟩]⟩⟩]
noncomputable def laws_markInt64SS.con (N : Nat) : Con := { modes := [.iov, .v], ptrs := [false], fn := fun ds k => match ds with | [d0, d1] => castDm (.sl 25 (.sl 2 (.int .i64))) (.own (.own .imm)) d0 fun x0 => castDm (.int .i64) .imm d1 fun x1 => bindO (laws_markInt64SS N x0 x1) fun r => k [⟨(.int .i64), .imm, r.1⟩] [⟨(.sl 25 (.sl 2 (.int .i64))), (.own (.own .imm)), r.2⟩] | _ => none }
noncomputable def laws_markInt64SS.cfg (N : Nat) : Cfg := { ty := tys, keep := [17], flt := [], elm := [(22, (.own .imm)), (23, (.own .imm)), (24, (.own (.own .imm))), (25, (.own .imm)), (26, (.pr (.own .imm) .imm)), (27, (.pr (.own .imm) .imm)), (28, (.pr (.own (.own .imm)) .imm)), (29, (.pr (.own (.own .imm)) .imm)), (30, (.own (.pr (.own .imm) .imm))), (31, (.pr (.own (.pr (.own .imm) .imm)) (.pr (.own (.pr (.own .imm) .imm)) .imm))), (32, (.pr (.own (.pr (.own .imm) .imm)) (.pr (.own (.pr (.own .imm) .imm)) .imm))), (33, (.pr (.own (.own .imm)) (.pr .imm (.pr (.own .imm) .imm)))), (34, (.pr (.own (.own .imm)) (.pr .imm (.pr (.own .imm) .imm)))), (35, (.pr (.own .imm) (.pr (.own .imm) (.pr (.own (.own .imm)) (.pr (.pr (.own .imm) .imm) (.pr (.pr (.own (.own .imm)) .imm) (.pr (.pr (.own (.pr (.own .imm) .imm)) (.pr (.own (.pr (.own .imm) .imm)) .imm)) (.pr (.pr (.own (.own .imm)) (.pr .imm (.pr (.own .imm) .imm))) (.pr .imm (.pr .imm (.pr .imm (.pr .imm (.pr .imm (.pr (.own (.own .imm)) .imm)))))))))))))), (36, (.pr (.own .imm) (.pr (.own .imm) (.pr (.own (.own .imm)) (.pr (.pr (.own .imm) .imm) (.pr (.pr (.own (.own .imm)) .imm) (.pr (.pr (.own (.pr (.own .imm) .imm)) (.pr (.own (.pr (.own .imm) .imm)) .imm)) (.pr (.pr (.own (.own .imm)) (.pr .imm (.pr (.own .imm) .imm))) (.pr .imm (.pr .imm (.pr .imm (.pr .imm (.pr .imm (.pr (.own (.own .imm)) .imm)))))))))))))), (66, (.own .imm))], live := [(2, [0, 1, 5])], ord := [], con := [((35, [.one, .one]), laws_markInt64S.con N)], loops := [(2, loopCon N laws_markInt64SS.sk2 laws_markInt64SS.xs2 (fun {R} => laws_markInt64SS.l2 (R := R) N))], joins := [] }
theorem laws_markInt64SS.cons (N : Nat) : ConsOk Try.prog (laws_markInt64SS.cfg N).con := (consOk_cons (hb35) (laws_markInt64S.ok N) (laws_markInt64S.det N) consOk_nil)
theorem laws_markInt64SS.h2 {R : Type} (N : Nat) (d : laws_markInt64SS.sk2.D) (kn : laws_markInt64SS.sk2.D → Option R) (kx : XD laws_markInt64SS.xs2 → Option R) : roundK (laws_markInt64SS.cfg N) N (nthLoop (fnBody Try.f18) 0) laws_markInt64SS.sk2 laws_markInt64SS.xs2 d kn kx = laws_markInt64SS.l2 N d kn kx := by kernel_rfl
theorem laws_markInt64SS.i2 (N : Nat) : LoopsOk Try.prog (laws_markInt64SS.cfg N) (nthLoop (fnBody Try.f18) 0) := loopsL (l := []) (by kernel_rfl) trivial
theorem laws_markInt64SS.o2 (N : Nat) : LoopOk Try.prog (nthLoop (fnBody Try.f18) 0) (loopCon N laws_markInt64SS.sk2 laws_markInt64SS.xs2 (fun {R} => laws_markInt64SS.l2 (R := R) N)) := loop_ok (g := laws_markInt64SS.cfg N) tys_ok (laws_markInt64SS.cons N) mixed (laws_markInt64SS.i2 N) (fun d kn kx => laws_markInt64SS.h2 N d kn kx)
theorem laws_markInt64SS.ls (N : Nat) : LoopsOk Try.prog (laws_markInt64SS.cfg N) (fnBody Try.f18) := loopsL (l := [nthLoop (fnBody Try.f18) 0]) (by kernel_rfl) ⟨loopOne (L0 := loopCon N laws_markInt64SS.sk2 laws_markInt64SS.xs2 (fun {R} => laws_markInt64SS.l2 (R := R) N)) (id := 2) (by kernel_rfl) (by kernel_rfl) (laws_markInt64SS.o2 N), trivial⟩
theorem laws_markInt64SS.q2 {R R' : Type} {N n : Nat} {d} {k} {g : R → Option R'} : bindF (loopP (laws_markInt64SS.l2 N) n d k) g = loopP (laws_markInt64SS.l2 N) n d fun e => bindF (k e) g := bindF_loopP (fun d kn kx => by simp only [laws_markInt64SS.l2, bindF_ifB, bindF_bindO, bindF_pure, bindF_none, bindF_onSum]) n d k
theorem laws_markInt64SS.b (N : Nat) (x0 : den (.sl 25 (.sl 2 (.int .i64)))) (x1 : den (.int .i64)) : body (laws_markInt64SS.cfg N) N Try.f18 [.one, .one] [.iov, .v] [(false, .imm)] [⟨(.sl 25 (.sl 2 (.int .i64))), (.own (.own .imm)), x0⟩, ⟨(.int .i64), .imm, x1⟩] (fun r i => some (r, i)) = bindO (laws_markInt64SS N x0 x1) fun r => some ([⟨(.int .i64), .imm, r.1⟩], [⟨(.sl 25 (.sl 2 (.int .i64))), (.own (.own .imm)), r.2⟩]) := by
  show _ = bindF _ _
  conv => rhs; simp only [laws_markInt64SS, bindF_ifB, bindF_bindO, bindF_pure, bindF_none, bindF_onSum, laws_markInt64SS.q2]
  kernel_rfl
theorem laws_markInt64SS.ok (N : Nat) : ConOk Try.prog 18 [.one, .one] (laws_markInt64SS.con N) := by
  refine conOk_mk (g := laws_markInt64SS.cfg N) (N := N) (res := [(false, .imm)]) tys_ok (laws_markInt64SS.cons N) mixed Try.func18 (laws_markInt64SS.ls N) rfl rfl ?_
  intro ds R k y h
  cases ds with
  | nil => exact none_some h
  | cons d0 ds =>
  cases ds with
  | nil => exact none_some h
  | cons d1 ds =>
  cases ds with
  | cons _ _ => exact none_some h
  | nil =>
  have h0 : (castDm (.sl 25 (.sl 2 (.int .i64))) (.own (.own .imm)) d0 fun x0 => castDm (.int .i64) .imm d1 fun x1 => bindO (laws_markInt64SS N x0 x1) fun r => k [⟨(.int .i64), .imm, r.1⟩] [⟨(.sl 25 (.sl 2 (.int .i64))), (.own (.own .imm)), r.2⟩]) = some y := h
  clear h
  obtain ⟨x0, rfl, h1⟩ := castDm_eq h0
  obtain ⟨x1, rfl, h2⟩ := castDm_eq h1
  exact con_fin (laws_markInt64SS.b N x0 x1) h2
theorem laws_markInt64SS.det (N : Nat) : ConDet (laws_markInt64SS.con N) := by
  intro ds R k y h
  cases ds with
  | nil => exact none_some h
  | cons d0 ds =>
  cases ds with
  | nil => exact none_some h
  | cons d1 ds =>
  cases ds with
  | cons _ _ => exact none_some h
  | nil =>
  have h0 : (castDm (.sl 25 (.sl 2 (.int .i64))) (.own (.own .imm)) d0 fun x0 => castDm (.int .i64) .imm d1 fun x1 => bindO (laws_markInt64SS N x0 x1) fun r => k [⟨(.int .i64), .imm, r.1⟩] [⟨(.sl 25 (.sl 2 (.int .i64))), (.own (.own .imm)), r.2⟩]) = some y := h
  clear h
  obtain ⟨x0, rfl, h1⟩ := castDm_eq h0
  obtain ⟨x1, rfl, h2⟩ := castDm_eq h1
  obtain ⟨r, e, h⟩ := bindO_some h2
  refine ⟨_, _, h, fun k' => ?_⟩
  show (castDm (.sl 25 (.sl 2 (.int .i64))) (.own (.own .imm)) (⟨(.sl 25 (.sl 2 (.int .i64))), (.own (.own .imm)), x0⟩ : Dy) fun x0 => castDm (.int .i64) .imm (⟨(.int .i64), .imm, x1⟩ : Dy) fun x1 => bindO (laws_markInt64SS N x0 x1) fun r => k' [⟨(.int .i64), .imm, r.1⟩] [⟨(.sl 25 (.sl 2 (.int .i64))), (.own (.own .imm)), r.2⟩]) = _
  simp only [castDm_self]
  rw [e]
  rfl
noncomputable def laws_markBuf.con (N : Nat) : Con := { modes := [.iov, .v], ptrs := [false], fn := fun ds k => match ds with | [d0, d1] => castDm (.pair (.sl 2 (.int .i64)) (.pair (.int .i64) (.pair (.int .i64) .unit))) (.pr (.own .imm) .imm) d0 fun x0 => castDm (.int .i64) .imm d1 fun x1 => bindO (laws_markBuf N x0 x1) fun r => k [⟨(.int .i64), .imm, r.1⟩] [⟨(.pair (.sl 2 (.int .i64)) (.pair (.int .i64) (.pair (.int .i64) .unit))), (.pr (.own .imm) .imm), r.2⟩] | _ => none }
noncomputable def laws_markBuf.cfg (N : Nat) : Cfg := { ty := tys, keep := [8], flt := [], elm := [(22, (.own .imm)), (23, (.own .imm)), (24, (.own (.own .imm))), (25, (.own .imm)), (26, (.pr (.own .imm) .imm)), (27, (.pr (.own .imm) .imm)), (28, (.pr (.own (.own .imm)) .imm)), (29, (.pr (.own (.own .imm)) .imm)), (30, (.own (.pr (.own .imm) .imm))), (31, (.pr (.own (.pr (.own .imm) .imm)) (.pr (.own (.pr (.own .imm) .imm)) .imm))), (32, (.pr (.own (.pr (.own .imm) .imm)) (.pr (.own (.pr (.own .imm) .imm)) .imm))), (33, (.pr (.own (.own .imm)) (.pr .imm (.pr (.own .imm) .imm)))), (34, (.pr (.own (.own .imm)) (.pr .imm (.pr (.own .imm) .imm)))), (35, (.pr (.own .imm) (.pr (.own .imm) (.pr (.own (.own .imm)) (.pr (.pr (.own .imm) .imm) (.pr (.pr (.own (.own .imm)) .imm) (.pr (.pr (.own (.pr (.own .imm) .imm)) (.pr (.own (.pr (.own .imm) .imm)) .imm)) (.pr (.pr (.own (.own .imm)) (.pr .imm (.pr (.own .imm) .imm))) (.pr .imm (.pr .imm (.pr .imm (.pr .imm (.pr .imm (.pr (.own (.own .imm)) .imm)))))))))))))), (36, (.pr (.own .imm) (.pr (.own .imm) (.pr (.own (.own .imm)) (.pr (.pr (.own .imm) .imm) (.pr (.pr (.own (.own .imm)) .imm) (.pr (.pr (.own (.pr (.own .imm) .imm)) (.pr (.own (.pr (.own .imm) .imm)) .imm)) (.pr (.pr (.own (.own .imm)) (.pr .imm (.pr (.own .imm) .imm))) (.pr .imm (.pr .imm (.pr .imm (.pr .imm (.pr .imm (.pr (.own (.own .imm)) .imm)))))))))))))), (66, (.own .imm))], live := [], ord := [], con := [((35, [.one, .one]), laws_markInt64S.con N)], loops := [], joins := [] }
theorem laws_markBuf.cons (N : Nat) : ConsOk Try.prog (laws_markBuf.cfg N).con := (consOk_cons (hb35) (laws_markInt64S.ok N) (laws_markInt64S.det N) consOk_nil)
theorem laws_markBuf.ls (N : Nat) : LoopsOk Try.prog (laws_markBuf.cfg N) (fnBody Try.f19) := loopsL (l := []) (by kernel_rfl) trivial
theorem laws_markBuf.b (N : Nat) (x0 : den (.pair (.sl 2 (.int .i64)) (.pair (.int .i64) (.pair (.int .i64) .unit)))) (x1 : den (.int .i64)) : body (laws_markBuf.cfg N) N Try.f19 [.one, .one] [.iov, .v] [(false, .imm)] [⟨(.pair (.sl 2 (.int .i64)) (.pair (.int .i64) (.pair (.int .i64) .unit))), (.pr (.own .imm) .imm), x0⟩, ⟨(.int .i64), .imm, x1⟩] (fun r i => some (r, i)) = bindO (laws_markBuf N x0 x1) fun r => some ([⟨(.int .i64), .imm, r.1⟩], [⟨(.pair (.sl 2 (.int .i64)) (.pair (.int .i64) (.pair (.int .i64) .unit))), (.pr (.own .imm) .imm), r.2⟩]) := by
  show _ = bindF _ _
  conv => rhs; simp only [laws_markBuf, bindF_ifB, bindF_bindO, bindF_pure, bindF_none, bindF_onSum]
  kernel_rfl
theorem laws_markBuf.ok (N : Nat) : ConOk Try.prog 19 [.one, .one] (laws_markBuf.con N) := by
  refine conOk_mk (g := laws_markBuf.cfg N) (N := N) (res := [(false, .imm)]) tys_ok (laws_markBuf.cons N) mixed Try.func19 (laws_markBuf.ls N) rfl rfl ?_
  intro ds R k y h
  cases ds with
  | nil => exact none_some h
  | cons d0 ds =>
  cases ds with
  | nil => exact none_some h
  | cons d1 ds =>
  cases ds with
  | cons _ _ => exact none_some h
  | nil =>
  have h0 : (castDm (.pair (.sl 2 (.int .i64)) (.pair (.int .i64) (.pair (.int .i64) .unit))) (.pr (.own .imm) .imm) d0 fun x0 => castDm (.int .i64) .imm d1 fun x1 => bindO (laws_markBuf N x0 x1) fun r => k [⟨(.int .i64), .imm, r.1⟩] [⟨(.pair (.sl 2 (.int .i64)) (.pair (.int .i64) (.pair (.int .i64) .unit))), (.pr (.own .imm) .imm), r.2⟩]) = some y := h
  clear h
  obtain ⟨x0, rfl, h1⟩ := castDm_eq h0
  obtain ⟨x1, rfl, h2⟩ := castDm_eq h1
  exact con_fin (laws_markBuf.b N x0 x1) h2
theorem laws_markBuf.det (N : Nat) : ConDet (laws_markBuf.con N) := by
  intro ds R k y h
  cases ds with
  | nil => exact none_some h
  | cons d0 ds =>
  cases ds with
  | nil => exact none_some h
  | cons d1 ds =>
  cases ds with
  | cons _ _ => exact none_some h
  | nil =>
  have h0 : (castDm (.pair (.sl 2 (.int .i64)) (.pair (.int .i64) (.pair (.int .i64) .unit))) (.pr (.own .imm) .imm) d0 fun x0 => castDm (.int .i64) .imm d1 fun x1 => bindO (laws_markBuf N x0 x1) fun r => k [⟨(.int .i64), .imm, r.1⟩] [⟨(.pair (.sl 2 (.int .i64)) (.pair (.int .i64) (.pair (.int .i64) .unit))), (.pr (.own .imm) .imm), r.2⟩]) = some y := h
  clear h
  obtain ⟨x0, rfl, h1⟩ := castDm_eq h0
  obtain ⟨x1, rfl, h2⟩ := castDm_eq h1
  obtain ⟨r, e, h⟩ := bindO_some h2
  refine ⟨_, _, h, fun k' => ?_⟩
  show (castDm (.pair (.sl 2 (.int .i64)) (.pair (.int .i64) (.pair (.int .i64) .unit))) (.pr (.own .imm) .imm) (⟨(.pair (.sl 2 (.int .i64)) (.pair (.int .i64) (.pair (.int .i64) .unit))), (.pr (.own .imm) .imm), x0⟩ : Dy) fun x0 => castDm (.int .i64) .imm (⟨(.int .i64), .imm, x1⟩ : Dy) fun x1 => bindO (laws_markBuf N x0 x1) fun r => k' [⟨(.int .i64), .imm, r.1⟩] [⟨(.pair (.sl 2 (.int .i64)) (.pair (.int .i64) (.pair (.int .i64) .unit))), (.pr (.own .imm) .imm), r.2⟩]) = _
  simp only [castDm_self]
  rw [e]
  rfl
noncomputable def laws_markRing.con (N : Nat) : Con := { modes := [.iov, .v], ptrs := [false], fn := fun ds k => match ds with | [d0, d1] => castDm (.pair (.sl 25 (.sl 2 (.int .i64))) (.pair (.int .i64) .unit)) (.pr (.own (.own .imm)) .imm) d0 fun x0 => castDm (.int .i64) .imm d1 fun x1 => bindO (laws_markRing N x0 x1) fun r => k [⟨(.int .i64), .imm, r.1⟩] [⟨(.pair (.sl 25 (.sl 2 (.int .i64))) (.pair (.int .i64) .unit)), (.pr (.own (.own .imm)) .imm), r.2⟩] | _ => none }
noncomputable def laws_markRing.cfg (N : Nat) : Cfg := { ty := tys, keep := [8], flt := [], elm := [(22, (.own .imm)), (23, (.own .imm)), (24, (.own (.own .imm))), (25, (.own .imm)), (26, (.pr (.own .imm) .imm)), (27, (.pr (.own .imm) .imm)), (28, (.pr (.own (.own .imm)) .imm)), (29, (.pr (.own (.own .imm)) .imm)), (30, (.own (.pr (.own .imm) .imm))), (31, (.pr (.own (.pr (.own .imm) .imm)) (.pr (.own (.pr (.own .imm) .imm)) .imm))), (32, (.pr (.own (.pr (.own .imm) .imm)) (.pr (.own (.pr (.own .imm) .imm)) .imm))), (33, (.pr (.own (.own .imm)) (.pr .imm (.pr (.own .imm) .imm)))), (34, (.pr (.own (.own .imm)) (.pr .imm (.pr (.own .imm) .imm)))), (35, (.pr (.own .imm) (.pr (.own .imm) (.pr (.own (.own .imm)) (.pr (.pr (.own .imm) .imm) (.pr (.pr (.own (.own .imm)) .imm) (.pr (.pr (.own (.pr (.own .imm) .imm)) (.pr (.own (.pr (.own .imm) .imm)) .imm)) (.pr (.pr (.own (.own .imm)) (.pr .imm (.pr (.own .imm) .imm))) (.pr .imm (.pr .imm (.pr .imm (.pr .imm (.pr .imm (.pr (.own (.own .imm)) .imm)))))))))))))), (36, (.pr (.own .imm) (.pr (.own .imm) (.pr (.own (.own .imm)) (.pr (.pr (.own .imm) .imm) (.pr (.pr (.own (.own .imm)) .imm) (.pr (.pr (.own (.pr (.own .imm) .imm)) (.pr (.own (.pr (.own .imm) .imm)) .imm)) (.pr (.pr (.own (.own .imm)) (.pr .imm (.pr (.own .imm) .imm))) (.pr .imm (.pr .imm (.pr .imm (.pr .imm (.pr .imm (.pr (.own (.own .imm)) .imm)))))))))))))), (66, (.own .imm))], live := [], ord := [], con := [((18, [.one, .one]), laws_markInt64SS.con N)], loops := [], joins := [] }
theorem laws_markRing.cons (N : Nat) : ConsOk Try.prog (laws_markRing.cfg N).con := (consOk_cons (hb18) (laws_markInt64SS.ok N) (laws_markInt64SS.det N) consOk_nil)
theorem laws_markRing.ls (N : Nat) : LoopsOk Try.prog (laws_markRing.cfg N) (fnBody Try.f20) := loopsL (l := []) (by kernel_rfl) trivial
theorem laws_markRing.b (N : Nat) (x0 : den (.pair (.sl 25 (.sl 2 (.int .i64))) (.pair (.int .i64) .unit))) (x1 : den (.int .i64)) : body (laws_markRing.cfg N) N Try.f20 [.one, .one] [.iov, .v] [(false, .imm)] [⟨(.pair (.sl 25 (.sl 2 (.int .i64))) (.pair (.int .i64) .unit)), (.pr (.own (.own .imm)) .imm), x0⟩, ⟨(.int .i64), .imm, x1⟩] (fun r i => some (r, i)) = bindO (laws_markRing N x0 x1) fun r => some ([⟨(.int .i64), .imm, r.1⟩], [⟨(.pair (.sl 25 (.sl 2 (.int .i64))) (.pair (.int .i64) .unit)), (.pr (.own (.own .imm)) .imm), r.2⟩]) := by
  show _ = bindF _ _
  conv => rhs; simp only [laws_markRing, bindF_ifB, bindF_bindO, bindF_pure, bindF_none, bindF_onSum]
  kernel_rfl
theorem laws_markRing.ok (N : Nat) : ConOk Try.prog 20 [.one, .one] (laws_markRing.con N) := by
  refine conOk_mk (g := laws_markRing.cfg N) (N := N) (res := [(false, .imm)]) tys_ok (laws_markRing.cons N) mixed Try.func20 (laws_markRing.ls N) rfl rfl ?_
  intro ds R k y h
  cases ds with
  | nil => exact none_some h
  | cons d0 ds =>
  cases ds with
  | nil => exact none_some h
  | cons d1 ds =>
  cases ds with
  | cons _ _ => exact none_some h
  | nil =>
  have h0 : (castDm (.pair (.sl 25 (.sl 2 (.int .i64))) (.pair (.int .i64) .unit)) (.pr (.own (.own .imm)) .imm) d0 fun x0 => castDm (.int .i64) .imm d1 fun x1 => bindO (laws_markRing N x0 x1) fun r => k [⟨(.int .i64), .imm, r.1⟩] [⟨(.pair (.sl 25 (.sl 2 (.int .i64))) (.pair (.int .i64) .unit)), (.pr (.own (.own .imm)) .imm), r.2⟩]) = some y := h
  clear h
  obtain ⟨x0, rfl, h1⟩ := castDm_eq h0
  obtain ⟨x1, rfl, h2⟩ := castDm_eq h1
  exact con_fin (laws_markRing.b N x0 x1) h2
theorem laws_markRing.det (N : Nat) : ConDet (laws_markRing.con N) := by
  intro ds R k y h
  cases ds with
  | nil => exact none_some h
  | cons d0 ds =>
  cases ds with
  | nil => exact none_some h
  | cons d1 ds =>
  cases ds with
  | cons _ _ => exact none_some h
  | nil =>
  have h0 : (castDm (.pair (.sl 25 (.sl 2 (.int .i64))) (.pair (.int .i64) .unit)) (.pr (.own (.own .imm)) .imm) d0 fun x0 => castDm (.int .i64) .imm d1 fun x1 => bindO (laws_markRing N x0 x1) fun r => k [⟨(.int .i64), .imm, r.1⟩] [⟨(.pair (.sl 25 (.sl 2 (.int .i64))) (.pair (.int .i64) .unit)), (.pr (.own (.own .imm)) .imm), r.2⟩]) = some y := h
  clear h
  obtain ⟨x0, rfl, h1⟩ := castDm_eq h0
  obtain ⟨x1, rfl, h2⟩ := castDm_eq h1
  obtain ⟨r, e, h⟩ := bindO_some h2
  refine ⟨_, _, h, fun k' => ?_⟩
  show (castDm (.pair (.sl 25 (.sl 2 (.int .i64))) (.pair (.int .i64) .unit)) (.pr (.own (.own .imm)) .imm) (⟨(.pair (.sl 25 (.sl 2 (.int .i64))) (.pair (.int .i64) .unit)), (.pr (.own (.own .imm)) .imm), x0⟩ : Dy) fun x0 => castDm (.int .i64) .imm (⟨(.int .i64), .imm, x1⟩ : Dy) fun x1 => bindO (laws_markRing N x0 x1) fun r => k' [⟨(.int .i64), .imm, r.1⟩] [⟨(.pair (.sl 25 (.sl 2 (.int .i64))) (.pair (.int .i64) .unit)), (.pr (.own (.own .imm)) .imm), r.2⟩]) = _
  simp only [castDm_self]
  rw [e]
  rfl
def laws_markBufS.sk2 : Skel := ⟨[.ov 0 [], .pv (.int .i64), .dead, .dead, .dead, .pv (.int .i64), .dead, .dead, .dead, .dead, .dead, .dead, .dead, .dead, .dead, .dead, .dead, .dead, .dead, .dead, .dead, .dead, .dead, .dead, .dead, .dead, .dead, .dead, .dead, .dead, .dead, .dead, .dead, .dead], [⟨0, (.sl 27 (.pair (.sl 2 (.int .i64)) (.pair (.int .i64) (.pair (.int .i64) .unit)))), (.own (.pr (.own .imm) .imm)), false, true⟩]⟩
def laws_markBufS.xs2 : List XS := [⟨.exit 0, [1], ⟨[.dead, .pv (.int .i64), .dead, .dead, .dead, .dead, .dead, .dead, .dead, .dead, .dead, .dead, .dead, .dead, .dead, .dead, .dead, .dead, .dead, .dead, .dead, .dead, .dead, .dead, .dead, .dead, .dead, .dead, .dead, .dead, .dead, .dead, .dead, .dead], [⟨0, (.sl 27 (.pair (.sl 2 (.int .i64)) (.pair (.int .i64) (.pair (.int .i64) .unit)))), (.own (.pr (.own .imm) .imm)), false, true⟩]⟩⟩]
noncomputable def laws_markBufS.con (N : Nat) : Con := { modes := [.iov, .v], ptrs := [false], fn := fun ds k => match ds with | [d0, d1] => castDm (.sl 27 (.pair (.sl 2 (.int .i64)) (.pair (.int .i64) (.pair (.int .i64) .unit)))) (.own (.pr (.own .imm) .imm)) d0 fun x0 => castDm (.int .i64) .imm d1 fun x1 => bindO (laws_markBufS N x0 x1) fun r => k [⟨(.int .i64), .imm, r.1⟩] [⟨(.sl 27 (.pair (.sl 2 (.int .i64)) (.pair (.int .i64) (.pair (.int .i64) .unit)))), (.own (.pr (.own .imm) .imm)), r.2⟩] | _ => none }
noncomputable def laws_markBufS.cfg (N : Nat) : Cfg := { ty := tys, keep := [18], flt := [], elm := [(22, (.own .imm)), (23, (.own .imm)), (24, (.own (.own .imm))), (25, (.own .imm)), (26, (.pr (.own .imm) .imm)), (27, (.pr (.own .imm) .imm)), (28, (.pr (.own (.own .imm)) .imm)), (29, (.pr (.own (.own .imm)) .imm)), (30, (.own (.pr (.own .imm) .imm))), (31, (.pr (.own (.pr (.own .imm) .imm)) (.pr (.own (.pr (.own .imm) .imm)) .imm))), (32, (.pr (.own (.pr (.own .imm) .imm)) (.pr (.own (.pr (.own .imm) .imm)) .imm))), (33, (.pr (.own (.own .imm)) (.pr .imm (.pr (.own .imm) .imm)))), (34, (.pr (.own (.own .imm)) (.pr .imm (.pr (.own .imm) .imm)))), (35, (.pr (.own .imm) (.pr (.own .imm) (.pr (.own (.own .imm)) (.pr (.pr (.own .imm) .imm) (.pr (.pr (.own (.own .imm)) .imm) (.pr (.pr (.own (.pr (.own .imm) .imm)) (.pr (.own (.pr (.own .imm) .imm)) .imm)) (.pr (.pr (.own (.own .imm)) (.pr .imm (.pr (.own .imm) .imm))) (.pr .imm (.pr .imm (.pr .imm (.pr .imm (.pr .imm (.pr (.own (.own .imm)) .imm)))))))))))))), (36, (.pr (.own .imm) (.pr (.own .imm) (.pr (.own (.own .imm)) (.pr (.pr (.own .imm) .imm) (.pr (.pr (.own (.own .imm)) .imm) (.pr (.pr (.own (.pr (.own .imm) .imm)) (.pr (.own (.pr (.own .imm) .imm)) .imm)) (.pr (.pr (.own (.own .imm)) (.pr .imm (.pr (.own .imm) .imm))) (.pr .imm (.pr .imm (.pr .imm (.pr .imm (.pr .imm (.pr (.own (.own .imm)) .imm)))))))))))))), (66, (.own .imm))], live := [(2, [0, 1, 5])], ord := [], con := [((35, [.one, .one]), laws_markInt64S.con N)], loops := [(2, loopCon N laws_markBufS.sk2 laws_markBufS.xs2 (fun {R} => laws_markBufS.l2 (R := R) N))], joins := [] }
theorem laws_markBufS.cons (N : Nat) : ConsOk Try.prog (laws_markBufS.cfg N).con := (consOk_cons (hb35) (laws_markInt64S.ok N) (laws_markInt64S.det N) consOk_nil)
theorem laws_markBufS.h2 {R : Type} (N : Nat) (d : laws_markBufS.sk2.D) (kn : laws_markBufS.sk2.D → Option R) (kx : XD laws_markBufS.xs2 → Option R) : roundK (laws_markBufS.cfg N) N (nthLoop (fnBody Try.f36) 0) laws_markBufS.sk2 laws_markBufS.xs2 d kn kx = laws_markBufS.l2 N d kn kx := by kernel_rfl
theorem laws_markBufS.i2 (N : Nat) : LoopsOk Try.prog (laws_markBufS.cfg N) (nthLoop (fnBody Try.f36) 0) := loopsL (l := []) (by kernel_rfl) trivial
theorem laws_markBufS.o2 (N : Nat) : LoopOk Try.prog (nthLoop (fnBody Try.f36) 0) (loopCon N laws_markBufS.sk2 laws_markBufS.xs2 (fun {R} => laws_markBufS.l2 (R := R) N)) := loop_ok (g := laws_markBufS.cfg N) tys_ok (laws_markBufS.cons N) mixed (laws_markBufS.i2 N) (fun d kn kx => laws_markBufS.h2 N d kn kx)
theorem laws_markBufS.ls (N : Nat) : LoopsOk Try.prog (laws_markBufS.cfg N) (fnBody Try.f36) := loopsL (l := [nthLoop (fnBody Try.f36) 0]) (by kernel_rfl) ⟨loopOne (L0 := loopCon N laws_markBufS.sk2 laws_markBufS.xs2 (fun {R} => laws_markBufS.l2 (R := R) N)) (id := 2) (by kernel_rfl) (by kernel_rfl) (laws_markBufS.o2 N), trivial⟩
theorem laws_markBufS.q2 {R R' : Type} {N n : Nat} {d} {k} {g : R → Option R'} : bindF (loopP (laws_markBufS.l2 N) n d k) g = loopP (laws_markBufS.l2 N) n d fun e => bindF (k e) g := bindF_loopP (fun d kn kx => by simp only [laws_markBufS.l2, bindF_ifB, bindF_bindO, bindF_pure, bindF_none, bindF_onSum]) n d k
theorem laws_markBufS.b (N : Nat) (x0 : den (.sl 27 (.pair (.sl 2 (.int .i64)) (.pair (.int .i64) (.pair (.int .i64) .unit))))) (x1 : den (.int .i64)) : body (laws_markBufS.cfg N) N Try.f36 [.one, .one] [.iov, .v] [(false, .imm)] [⟨(.sl 27 (.pair (.sl 2 (.int .i64)) (.pair (.int .i64) (.pair (.int .i64) .unit)))), (.own (.pr (.own .imm) .imm)), x0⟩, ⟨(.int .i64), .imm, x1⟩] (fun r i => some (r, i)) = bindO (laws_markBufS N x0 x1) fun r => some ([⟨(.int .i64), .imm, r.1⟩], [⟨(.sl 27 (.pair (.sl 2 (.int .i64)) (.pair (.int .i64) (.pair (.int .i64) .unit)))), (.own (.pr (.own .imm) .imm)), r.2⟩]) := by
  show _ = bindF _ _
  conv => rhs; simp only [laws_markBufS, bindF_ifB, bindF_bindO, bindF_pure, bindF_none, bindF_onSum, laws_markBufS.q2]
  kernel_rfl
theorem laws_markBufS.ok (N : Nat) : ConOk Try.prog 36 [.one, .one] (laws_markBufS.con N) := by
  refine conOk_mk (g := laws_markBufS.cfg N) (N := N) (res := [(false, .imm)]) tys_ok (laws_markBufS.cons N) mixed Try.func36 (laws_markBufS.ls N) rfl rfl ?_
  intro ds R k y h
  cases ds with
  | nil => exact none_some h
  | cons d0 ds =>
  cases ds with
  | nil => exact none_some h
  | cons d1 ds =>
  cases ds with
  | cons _ _ => exact none_some h
  | nil =>
  have h0 : (castDm (.sl 27 (.pair (.sl 2 (.int .i64)) (.pair (.int .i64) (.pair (.int .i64) .unit)))) (.own (.pr (.own .imm) .imm)) d0 fun x0 => castDm (.int .i64) .imm d1 fun x1 => bindO (laws_markBufS N x0 x1) fun r => k [⟨(.int .i64), .imm, r.1⟩] [⟨(.sl 27 (.pair (.sl 2 (.int .i64)) (.pair (.int .i64) (.pair (.int .i64) .unit)))), (.own (.pr (.own .imm) .imm)), r.2⟩]) = some y := h
  clear h
  obtain ⟨x0, rfl, h1⟩ := castDm_eq h0
  obtain ⟨x1, rfl, h2⟩ := castDm_eq h1
  exact con_fin (laws_markBufS.b N x0 x1) h2
theorem laws_markBufS.det (N : Nat) : ConDet (laws_markBufS.con N) := by
  intro ds R k y h
  cases ds with
  | nil => exact none_some h
  | cons d0 ds =>
  cases ds with
  | nil => exact none_some h
  | cons d1 ds =>
  cases ds with
  | cons _ _ => exact none_some h
  | nil =>
  have h0 : (castDm (.sl 27 (.pair (.sl 2 (.int .i64)) (.pair (.int .i64) (.pair (.int .i64) .unit)))) (.own (.pr (.own .imm) .imm)) d0 fun x0 => castDm (.int .i64) .imm d1 fun x1 => bindO (laws_markBufS N x0 x1) fun r => k [⟨(.int .i64), .imm, r.1⟩] [⟨(.sl 27 (.pair (.sl 2 (.int .i64)) (.pair (.int .i64) (.pair (.int .i64) .unit)))), (.own (.pr (.own .imm) .imm)), r.2⟩]) = some y := h
  clear h
  obtain ⟨x0, rfl, h1⟩ := castDm_eq h0
  obtain ⟨x1, rfl, h2⟩ := castDm_eq h1
  obtain ⟨r, e, h⟩ := bindO_some h2
  refine ⟨_, _, h, fun k' => ?_⟩
  show (castDm (.sl 27 (.pair (.sl 2 (.int .i64)) (.pair (.int .i64) (.pair (.int .i64) .unit)))) (.own (.pr (.own .imm) .imm)) (⟨(.sl 27 (.pair (.sl 2 (.int .i64)) (.pair (.int .i64) (.pair (.int .i64) .unit)))), (.own (.pr (.own .imm) .imm)), x0⟩ : Dy) fun x0 => castDm (.int .i64) .imm (⟨(.int .i64), .imm, x1⟩ : Dy) fun x1 => bindO (laws_markBufS N x0 x1) fun r => k' [⟨(.int .i64), .imm, r.1⟩] [⟨(.sl 27 (.pair (.sl 2 (.int .i64)) (.pair (.int .i64) (.pair (.int .i64) .unit)))), (.own (.pr (.own .imm) .imm)), r.2⟩]) = _
  simp only [castDm_self]
  rw [e]
  rfl
noncomputable def laws_markUndo.con (N : Nat) : Con := { modes := [.iov, .v], ptrs := [false], fn := fun ds k => match ds with | [d0, d1] => castDm (.pair (.sl 27 (.pair (.sl 2 (.int .i64)) (.pair (.int .i64) (.pair (.int .i64) .unit)))) (.pair (.sl 27 (.pair (.sl 2 (.int .i64)) (.pair (.int .i64) (.pair (.int .i64) .unit)))) .unit)) (.pr (.own (.pr (.own .imm) .imm)) (.pr (.own (.pr (.own .imm) .imm)) .imm)) d0 fun x0 => castDm (.int .i64) .imm d1 fun x1 => bindO (laws_markUndo N x0 x1) fun r => k [⟨(.int .i64), .imm, r.1⟩] [⟨(.pair (.sl 27 (.pair (.sl 2 (.int .i64)) (.pair (.int .i64) (.pair (.int .i64) .unit)))) (.pair (.sl 27 (.pair (.sl 2 (.int .i64)) (.pair (.int .i64) (.pair (.int .i64) .unit)))) .unit)), (.pr (.own (.pr (.own .imm) .imm)) (.pr (.own (.pr (.own .imm) .imm)) .imm)), r.2⟩] | _ => none }
noncomputable def laws_markUndo.cfg (N : Nat) : Cfg := { ty := tys, keep := [8, 12], flt := [], elm := [(22, (.own .imm)), (23, (.own .imm)), (24, (.own (.own .imm))), (25, (.own .imm)), (26, (.pr (.own .imm) .imm)), (27, (.pr (.own .imm) .imm)), (28, (.pr (.own (.own .imm)) .imm)), (29, (.pr (.own (.own .imm)) .imm)), (30, (.own (.pr (.own .imm) .imm))), (31, (.pr (.own (.pr (.own .imm) .imm)) (.pr (.own (.pr (.own .imm) .imm)) .imm))), (32, (.pr (.own (.pr (.own .imm) .imm)) (.pr (.own (.pr (.own .imm) .imm)) .imm))), (33, (.pr (.own (.own .imm)) (.pr .imm (.pr (.own .imm) .imm)))), (34, (.pr (.own (.own .imm)) (.pr .imm (.pr (.own .imm) .imm)))), (35, (.pr (.own .imm) (.pr (.own .imm) (.pr (.own (.own .imm)) (.pr (.pr (.own .imm) .imm) (.pr (.pr (.own (.own .imm)) .imm) (.pr (.pr (.own (.pr (.own .imm) .imm)) (.pr (.own (.pr (.own .imm) .imm)) .imm)) (.pr (.pr (.own (.own .imm)) (.pr .imm (.pr (.own .imm) .imm))) (.pr .imm (.pr .imm (.pr .imm (.pr .imm (.pr .imm (.pr (.own (.own .imm)) .imm)))))))))))))), (36, (.pr (.own .imm) (.pr (.own .imm) (.pr (.own (.own .imm)) (.pr (.pr (.own .imm) .imm) (.pr (.pr (.own (.own .imm)) .imm) (.pr (.pr (.own (.pr (.own .imm) .imm)) (.pr (.own (.pr (.own .imm) .imm)) .imm)) (.pr (.pr (.own (.own .imm)) (.pr .imm (.pr (.own .imm) .imm))) (.pr .imm (.pr .imm (.pr .imm (.pr .imm (.pr .imm (.pr (.own (.own .imm)) .imm)))))))))))))), (66, (.own .imm))], live := [], ord := [], con := [((36, [.one, .one]), laws_markBufS.con N)], loops := [], joins := [] }
theorem laws_markUndo.cons (N : Nat) : ConsOk Try.prog (laws_markUndo.cfg N).con := (consOk_cons (hb36) (laws_markBufS.ok N) (laws_markBufS.det N) consOk_nil)
theorem laws_markUndo.ls (N : Nat) : LoopsOk Try.prog (laws_markUndo.cfg N) (fnBody Try.f21) := loopsL (l := []) (by kernel_rfl) trivial
theorem laws_markUndo.b (N : Nat) (x0 : den (.pair (.sl 27 (.pair (.sl 2 (.int .i64)) (.pair (.int .i64) (.pair (.int .i64) .unit)))) (.pair (.sl 27 (.pair (.sl 2 (.int .i64)) (.pair (.int .i64) (.pair (.int .i64) .unit)))) .unit))) (x1 : den (.int .i64)) : body (laws_markUndo.cfg N) N Try.f21 [.one, .one] [.iov, .v] [(false, .imm)] [⟨(.pair (.sl 27 (.pair (.sl 2 (.int .i64)) (.pair (.int .i64) (.pair (.int .i64) .unit)))) (.pair (.sl 27 (.pair (.sl 2 (.int .i64)) (.pair (.int .i64) (.pair (.int .i64) .unit)))) .unit)), (.pr (.own (.pr (.own .imm) .imm)) (.pr (.own (.pr (.own .imm) .imm)) .imm)), x0⟩, ⟨(.int .i64), .imm, x1⟩] (fun r i => some (r, i)) = bindO (laws_markUndo N x0 x1) fun r => some ([⟨(.int .i64), .imm, r.1⟩], [⟨(.pair (.sl 27 (.pair (.sl 2 (.int .i64)) (.pair (.int .i64) (.pair (.int .i64) .unit)))) (.pair (.sl 27 (.pair (.sl 2 (.int .i64)) (.pair (.int .i64) (.pair (.int .i64) .unit)))) .unit)), (.pr (.own (.pr (.own .imm) .imm)) (.pr (.own (.pr (.own .imm) .imm)) .imm)), r.2⟩]) := by
  show _ = bindF _ _
  conv => rhs; simp only [laws_markUndo, bindF_ifB, bindF_bindO, bindF_pure, bindF_none, bindF_onSum]
  kernel_rfl
theorem laws_markUndo.ok (N : Nat) : ConOk Try.prog 21 [.one, .one] (laws_markUndo.con N) := by
  refine conOk_mk (g := laws_markUndo.cfg N) (N := N) (res := [(false, .imm)]) tys_ok (laws_markUndo.cons N) mixed Try.func21 (laws_markUndo.ls N) rfl rfl ?_
  intro ds R k y h
  cases ds with
  | nil => exact none_some h
  | cons d0 ds =>
  cases ds with
  | nil => exact none_some h
  | cons d1 ds =>
  cases ds with
  | cons _ _ => exact none_some h
  | nil =>
  have h0 : (castDm (.pair (.sl 27 (.pair (.sl 2 (.int .i64)) (.pair (.int .i64) (.pair (.int .i64) .unit)))) (.pair (.sl 27 (.pair (.sl 2 (.int .i64)) (.pair (.int .i64) (.pair (.int .i64) .unit)))) .unit)) (.pr (.own (.pr (.own .imm) .imm)) (.pr (.own (.pr (.own .imm) .imm)) .imm)) d0 fun x0 => castDm (.int .i64) .imm d1 fun x1 => bindO (laws_markUndo N x0 x1) fun r => k [⟨(.int .i64), .imm, r.1⟩] [⟨(.pair (.sl 27 (.pair (.sl 2 (.int .i64)) (.pair (.int .i64) (.pair (.int .i64) .unit)))) (.pair (.sl 27 (.pair (.sl 2 (.int .i64)) (.pair (.int .i64) (.pair (.int .i64) .unit)))) .unit)), (.pr (.own (.pr (.own .imm) .imm)) (.pr (.own (.pr (.own .imm) .imm)) .imm)), r.2⟩]) = some y := h
  clear h
  obtain ⟨x0, rfl, h1⟩ := castDm_eq h0
  obtain ⟨x1, rfl, h2⟩ := castDm_eq h1
  exact con_fin (laws_markUndo.b N x0 x1) h2
theorem laws_markUndo.det (N : Nat) : ConDet (laws_markUndo.con N) := by
  intro ds R k y h
  cases ds with
  | nil => exact none_some h
  | cons d0 ds =>
  cases ds with
  | nil => exact none_some h
  | cons d1 ds =>
  cases ds with
  | cons _ _ => exact none_some h
  | nil =>
  have h0 : (castDm (.pair (.sl 27 (.pair (.sl 2 (.int .i64)) (.pair (.int .i64) (.pair (.int .i64) .unit)))) (.pair (.sl 27 (.pair (.sl 2 (.int .i64)) (.pair (.int .i64) (.pair (.int .i64) .unit)))) .unit)) (.pr (.own (.pr (.own .imm) .imm)) (.pr (.own (.pr (.own .imm) .imm)) .imm)) d0 fun x0 => castDm (.int .i64) .imm d1 fun x1 => bindO (laws_markUndo N x0 x1) fun r => k [⟨(.int .i64), .imm, r.1⟩] [⟨(.pair (.sl 27 (.pair (.sl 2 (.int .i64)) (.pair (.int .i64) (.pair (.int .i64) .unit)))) (.pair (.sl 27 (.pair (.sl 2 (.int .i64)) (.pair (.int .i64) (.pair (.int .i64) .unit)))) .unit)), (.pr (.own (.pr (.own .imm) .imm)) (.pr (.own (.pr (.own .imm) .imm)) .imm)), r.2⟩]) = some y := h
  clear h
  obtain ⟨x0, rfl, h1⟩ := castDm_eq h0
  obtain ⟨x1, rfl, h2⟩ := castDm_eq h1
  obtain ⟨r, e, h⟩ := bindO_some h2
  refine ⟨_, _, h, fun k' => ?_⟩
  show (castDm (.pair (.sl 27 (.pair (.sl 2 (.int .i64)) (.pair (.int .i64) (.pair (.int .i64) .unit)))) (.pair (.sl 27 (.pair (.sl 2 (.int .i64)) (.pair (.int .i64) (.pair (.int .i64) .unit)))) .unit)) (.pr (.own (.pr (.own .imm) .imm)) (.pr (.own (.pr (.own .imm) .imm)) .imm)) (⟨(.pair (.sl 27 (.pair (.sl 2 (.int .i64)) (.pair (.int .i64) (.pair (.int .i64) .unit)))) (.pair (.sl 27 (.pair (.sl 2 (.int .i64)) (.pair (.int .i64) (.pair (.int .i64) .unit)))) .unit)), (.pr (.own (.pr (.own .imm) .imm)) (.pr (.own (.pr (.own .imm) .imm)) .imm)), x0⟩ : Dy) fun x0 => castDm (.int .i64) .imm (⟨(.int .i64), .imm, x1⟩ : Dy) fun x1 => bindO (laws_markUndo N x0 x1) fun r => k' [⟨(.int .i64), .imm, r.1⟩] [⟨(.pair (.sl 27 (.pair (.sl 2 (.int .i64)) (.pair (.int .i64) (.pair (.int .i64) .unit)))) (.pair (.sl 27 (.pair (.sl 2 (.int .i64)) (.pair (.int .i64) (.pair (.int .i64) .unit)))) .unit)), (.pr (.own (.pr (.own .imm) .imm)) (.pr (.own (.pr (.own .imm) .imm)) .imm)), r.2⟩]) = _
  simp only [castDm_self]
  rw [e]
  rfl
noncomputable def laws_markHist.con (N : Nat) : Con := { modes := [.iov, .v], ptrs := [false], fn := fun ds k => match ds with | [d0, d1] => castDm (.pair (.sl 25 (.sl 2 (.int .i64))) (.pair (.int .i64) (.pair (.sl 2 (.int .i64)) .unit))) (.pr (.own (.own .imm)) (.pr .imm (.pr (.own .imm) .imm))) d0 fun x0 => castDm (.int .i64) .imm d1 fun x1 => bindO (laws_markHist N x0 x1) fun r => k [⟨(.int .i64), .imm, r.1⟩] [⟨(.pair (.sl 25 (.sl 2 (.int .i64))) (.pair (.int .i64) (.pair (.sl 2 (.int .i64)) .unit))), (.pr (.own (.own .imm)) (.pr .imm (.pr (.own .imm) .imm))), r.2⟩] | _ => none }
noncomputable def laws_markHist.cfg (N : Nat) : Cfg := { ty := tys, keep := [8, 12], flt := [], elm := [(22, (.own .imm)), (23, (.own .imm)), (24, (.own (.own .imm))), (25, (.own .imm)), (26, (.pr (.own .imm) .imm)), (27, (.pr (.own .imm) .imm)), (28, (.pr (.own (.own .imm)) .imm)), (29, (.pr (.own (.own .imm)) .imm)), (30, (.own (.pr (.own .imm) .imm))), (31, (.pr (.own (.pr (.own .imm) .imm)) (.pr (.own (.pr (.own .imm) .imm)) .imm))), (32, (.pr (.own (.pr (.own .imm) .imm)) (.pr (.own (.pr (.own .imm) .imm)) .imm))), (33, (.pr (.own (.own .imm)) (.pr .imm (.pr (.own .imm) .imm)))), (34, (.pr (.own (.own .imm)) (.pr .imm (.pr (.own .imm) .imm)))), (35, (.pr (.own .imm) (.pr (.own .imm) (.pr (.own (.own .imm)) (.pr (.pr (.own .imm) .imm) (.pr (.pr (.own (.own .imm)) .imm) (.pr (.pr (.own (.pr (.own .imm) .imm)) (.pr (.own (.pr (.own .imm) .imm)) .imm)) (.pr (.pr (.own (.own .imm)) (.pr .imm (.pr (.own .imm) .imm))) (.pr .imm (.pr .imm (.pr .imm (.pr .imm (.pr .imm (.pr (.own (.own .imm)) .imm)))))))))))))), (36, (.pr (.own .imm) (.pr (.own .imm) (.pr (.own (.own .imm)) (.pr (.pr (.own .imm) .imm) (.pr (.pr (.own (.own .imm)) .imm) (.pr (.pr (.own (.pr (.own .imm) .imm)) (.pr (.own (.pr (.own .imm) .imm)) .imm)) (.pr (.pr (.own (.own .imm)) (.pr .imm (.pr (.own .imm) .imm))) (.pr .imm (.pr .imm (.pr .imm (.pr .imm (.pr .imm (.pr (.own (.own .imm)) .imm)))))))))))))), (66, (.own .imm))], live := [], ord := [], con := [((18, [.one, .one]), laws_markInt64SS.con N), ((35, [.one, .one]), laws_markInt64S.con N)], loops := [], joins := [] }
theorem laws_markHist.cons (N : Nat) : ConsOk Try.prog (laws_markHist.cfg N).con := (consOk_cons (hb18) (laws_markInt64SS.ok N) (laws_markInt64SS.det N) (consOk_cons (hb35) (laws_markInt64S.ok N) (laws_markInt64S.det N) consOk_nil))
theorem laws_markHist.ls (N : Nat) : LoopsOk Try.prog (laws_markHist.cfg N) (fnBody Try.f22) := loopsL (l := []) (by kernel_rfl) trivial
theorem laws_markHist.b (N : Nat) (x0 : den (.pair (.sl 25 (.sl 2 (.int .i64))) (.pair (.int .i64) (.pair (.sl 2 (.int .i64)) .unit)))) (x1 : den (.int .i64)) : body (laws_markHist.cfg N) N Try.f22 [.one, .one] [.iov, .v] [(false, .imm)] [⟨(.pair (.sl 25 (.sl 2 (.int .i64))) (.pair (.int .i64) (.pair (.sl 2 (.int .i64)) .unit))), (.pr (.own (.own .imm)) (.pr .imm (.pr (.own .imm) .imm))), x0⟩, ⟨(.int .i64), .imm, x1⟩] (fun r i => some (r, i)) = bindO (laws_markHist N x0 x1) fun r => some ([⟨(.int .i64), .imm, r.1⟩], [⟨(.pair (.sl 25 (.sl 2 (.int .i64))) (.pair (.int .i64) (.pair (.sl 2 (.int .i64)) .unit))), (.pr (.own (.own .imm)) (.pr .imm (.pr (.own .imm) .imm))), r.2⟩]) := by
  show _ = bindF _ _
  conv => rhs; simp only [laws_markHist, bindF_ifB, bindF_bindO, bindF_pure, bindF_none, bindF_onSum]
  kernel_rfl
theorem laws_markHist.ok (N : Nat) : ConOk Try.prog 22 [.one, .one] (laws_markHist.con N) := by
  refine conOk_mk (g := laws_markHist.cfg N) (N := N) (res := [(false, .imm)]) tys_ok (laws_markHist.cons N) mixed Try.func22 (laws_markHist.ls N) rfl rfl ?_
  intro ds R k y h
  cases ds with
  | nil => exact none_some h
  | cons d0 ds =>
  cases ds with
  | nil => exact none_some h
  | cons d1 ds =>
  cases ds with
  | cons _ _ => exact none_some h
  | nil =>
  have h0 : (castDm (.pair (.sl 25 (.sl 2 (.int .i64))) (.pair (.int .i64) (.pair (.sl 2 (.int .i64)) .unit))) (.pr (.own (.own .imm)) (.pr .imm (.pr (.own .imm) .imm))) d0 fun x0 => castDm (.int .i64) .imm d1 fun x1 => bindO (laws_markHist N x0 x1) fun r => k [⟨(.int .i64), .imm, r.1⟩] [⟨(.pair (.sl 25 (.sl 2 (.int .i64))) (.pair (.int .i64) (.pair (.sl 2 (.int .i64)) .unit))), (.pr (.own (.own .imm)) (.pr .imm (.pr (.own .imm) .imm))), r.2⟩]) = some y := h
  clear h
  obtain ⟨x0, rfl, h1⟩ := castDm_eq h0
  obtain ⟨x1, rfl, h2⟩ := castDm_eq h1
  exact con_fin (laws_markHist.b N x0 x1) h2
theorem laws_markHist.det (N : Nat) : ConDet (laws_markHist.con N) := by
  intro ds R k y h
  cases ds with
  | nil => exact none_some h
  | cons d0 ds =>
  cases ds with
  | nil => exact none_some h
  | cons d1 ds =>
  cases ds with
  | cons _ _ => exact none_some h
  | nil =>
  have h0 : (castDm (.pair (.sl 25 (.sl 2 (.int .i64))) (.pair (.int .i64) (.pair (.sl 2 (.int .i64)) .unit))) (.pr (.own (.own .imm)) (.pr .imm (.pr (.own .imm) .imm))) d0 fun x0 => castDm (.int .i64) .imm d1 fun x1 => bindO (laws_markHist N x0 x1) fun r => k [⟨(.int .i64), .imm, r.1⟩] [⟨(.pair (.sl 25 (.sl 2 (.int .i64))) (.pair (.int .i64) (.pair (.sl 2 (.int .i64)) .unit))), (.pr (.own (.own .imm)) (.pr .imm (.pr (.own .imm) .imm))), r.2⟩]) = some y := h
  clear h
  obtain ⟨x0, rfl, h1⟩ := castDm_eq h0
  obtain ⟨x1, rfl, h2⟩ := castDm_eq h1
  obtain ⟨r, e, h⟩ := bindO_some h2
  refine ⟨_, _, h, fun k' => ?_⟩
  show (castDm (.pair (.sl 25 (.sl 2 (.int .i64))) (.pair (.int .i64) (.pair (.sl 2 (.int .i64)) .unit))) (.pr (.own (.own .imm)) (.pr .imm (.pr (.own .imm) .imm))) (⟨(.pair (.sl 25 (.sl 2 (.int .i64))) (.pair (.int .i64) (.pair (.sl 2 (.int .i64)) .unit))), (.pr (.own (.own .imm)) (.pr .imm (.pr (.own .imm) .imm))), x0⟩ : Dy) fun x0 => castDm (.int .i64) .imm (⟨(.int .i64), .imm, x1⟩ : Dy) fun x1 => bindO (laws_markHist N x0 x1) fun r => k' [⟨(.int .i64), .imm, r.1⟩] [⟨(.pair (.sl 25 (.sl 2 (.int .i64))) (.pair (.int .i64) (.pair (.sl 2 (.int .i64)) .unit))), (.pr (.own (.own .imm)) (.pr .imm (.pr (.own .imm) .imm))), r.2⟩]) = _
  simp only [castDm_self]
  rw [e]
  rfl
end Go.AE.F
