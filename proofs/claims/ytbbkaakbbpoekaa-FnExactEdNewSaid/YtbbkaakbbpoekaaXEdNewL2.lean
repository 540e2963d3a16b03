/- The printed functions are what the program comes to: contracts. -/
import Derived.Test.YtbbkaakbbpoekaaXEdNewL1
namespace Go.AE.F
open Go.AE Go.Proofs
set_option maxRecDepth 100000
noncomputable def laws_markEd.con (N : Nat) : Con := { modes := [.iov, .v], ptrs := [false], fn := fun ds k => match ds with | [d0, d1] => castDm (.pair (.sl 57 (.pair (.int .i64) (.pair .str (.pair .str .unit)))) (.pair (.sl 60 (.pair .str (.pair .str .unit))) (.pair (.sl 25 (.sl 2 (.int .i64))) (.pair (.pair (.sl 2 (.int .i64)) (.pair (.int .i64) (.pair (.int .i64) .unit))) (.pair (.pair (.sl 25 (.sl 2 (.int .i64))) (.pair (.int .i64) .unit)) (.pair (.pair (.sl 27 (.pair (.sl 2 (.int .i64)) (.pair (.int .i64) (.pair (.int .i64) .unit)))) (.pair (.sl 27 (.pair (.sl 2 (.int .i64)) (.pair (.int .i64) (.pair (.int .i64) .unit)))) .unit)) (.pair (.pair (.sl 25 (.sl 2 (.int .i64))) (.pair (.int .i64) (.pair (.sl 2 (.int .i64)) .unit))) (.pair (.int .i64) (.pair .str (.pair (.int .i64) (.pair (.int .i64) (.pair (.int .i64) (.pair (.sl 25 (.sl 2 (.int .i64))) .unit))))))))))))) (.pr (.own .imm) (.pr (.own .imm) (.pr (.own (.own .imm)) (.pr (.pr (.own .imm) .imm) (.pr (.pr (.own (.own .imm)) .imm) (.pr (.pr (.own (.pr (.own .imm) .imm)) (.pr (.own (.pr (.own .imm) .imm)) .imm)) (.pr (.pr (.own (.own .imm)) (.pr .imm (.pr (.own .imm) .imm))) (.pr .imm (.pr .imm (.pr .imm (.pr .imm (.pr .imm (.pr (.own (.own .imm)) .imm))))))))))))) d0 fun x0 => castDm (.int .i64) .imm d1 fun x1 => bindO (laws_markEd N x0 x1) fun r => k [⟨(.int .i64), .imm, r.1⟩] [⟨(.pair (.sl 57 (.pair (.int .i64) (.pair .str (.pair .str .unit)))) (.pair (.sl 60 (.pair .str (.pair .str .unit))) (.pair (.sl 25 (.sl 2 (.int .i64))) (.pair (.pair (.sl 2 (.int .i64)) (.pair (.int .i64) (.pair (.int .i64) .unit))) (.pair (.pair (.sl 25 (.sl 2 (.int .i64))) (.pair (.int .i64) .unit)) (.pair (.pair (.sl 27 (.pair (.sl 2 (.int .i64)) (.pair (.int .i64) (.pair (.int .i64) .unit)))) (.pair (.sl 27 (.pair (.sl 2 (.int .i64)) (.pair (.int .i64) (.pair (.int .i64) .unit)))) .unit)) (.pair (.pair (.sl 25 (.sl 2 (.int .i64))) (.pair (.int .i64) (.pair (.sl 2 (.int .i64)) .unit))) (.pair (.int .i64) (.pair .str (.pair (.int .i64) (.pair (.int .i64) (.pair (.int .i64) (.pair (.sl 25 (.sl 2 (.int .i64))) .unit))))))))))))), (.pr (.own .imm) (.pr (.own .imm) (.pr (.own (.own .imm)) (.pr (.pr (.own .imm) .imm) (.pr (.pr (.own (.own .imm)) .imm) (.pr (.pr (.own (.pr (.own .imm) .imm)) (.pr (.own (.pr (.own .imm) .imm)) .imm)) (.pr (.pr (.own (.own .imm)) (.pr .imm (.pr (.own .imm) .imm))) (.pr .imm (.pr .imm (.pr .imm (.pr .imm (.pr .imm (.pr (.own (.own .imm)) .imm))))))))))))), r.2⟩] | _ => none }
noncomputable def laws_markEd.cfg (N : Nat) : Cfg := { ty := tys, keep := [8, 12, 16, 20, 24, 28, 32, 36], flt := [], elm := [(22, (.own .imm)), (23, (.own .imm)), (24, (.own (.own .imm))), (25, (.own .imm)), (26, (.pr (.own .imm) .imm)), (27, (.pr (.own .imm) .imm)), (28, (.pr (.own (.own .imm)) .imm)), (29, (.pr (.own (.own .imm)) .imm)), (30, (.own (.pr (.own .imm) .imm))), (31, (.pr (.own (.pr (.own .imm) .imm)) (.pr (.own (.pr (.own .imm) .imm)) .imm))), (32, (.pr (.own (.pr (.own .imm) .imm)) (.pr (.own (.pr (.own .imm) .imm)) .imm))), (33, (.pr (.own (.own .imm)) (.pr .imm (.pr (.own .imm) .imm)))), (34, (.pr (.own (.own .imm)) (.pr .imm (.pr (.own .imm) .imm)))), (35, (.pr (.own .imm) (.pr (.own .imm) (.pr (.own (.own .imm)) (.pr (.pr (.own .imm) .imm) (.pr (.pr (.own (.own .imm)) .imm) (.pr (.pr (.own (.pr (.own .imm) .imm)) (.pr (.own (.pr (.own .imm) .imm)) .imm)) (.pr (.pr (.own (.own .imm)) (.pr .imm (.pr (.own .imm) .imm))) (.pr .imm (.pr .imm (.pr .imm (.pr .imm (.pr .imm (.pr (.own (.own .imm)) .imm)))))))))))))), (36, (.pr (.own .imm) (.pr (.own .imm) (.pr (.own (.own .imm)) (.pr (.pr (.own .imm) .imm) (.pr (.pr (.own (.own .imm)) .imm) (.pr (.pr (.own (.pr (.own .imm) .imm)) (.pr (.own (.pr (.own .imm) .imm)) .imm)) (.pr (.pr (.own (.own .imm)) (.pr .imm (.pr (.own .imm) .imm))) (.pr .imm (.pr .imm (.pr .imm (.pr .imm (.pr .imm (.pr (.own (.own .imm)) .imm)))))))))))))), (66, (.own .imm))], live := [], ord := [], con := [((16, [.one, .one]), laws_markKeyS.con N), ((17, [.one, .one]), laws_markWidgetS.con N), ((18, [.one, .one]), laws_markInt64SS.con N), ((19, [.one, .one]), laws_markBuf.con N), ((20, [.one, .one]), laws_markRing.con N), ((21, [.one, .one]), laws_markUndo.con N), ((22, [.one, .one]), laws_markHist.con N)], loops := [], joins := [] }
theorem laws_markEd.cons (N : Nat) : ConsOk Try.prog (laws_markEd.cfg N).con := (consOk_cons (hb16) (laws_markKeyS.ok N) (laws_markKeyS.det N) (consOk_cons (hb17) (laws_markWidgetS.ok N) (laws_markWidgetS.det N) (consOk_cons (hb18) (laws_markInt64SS.ok N) (laws_markInt64SS.det N) (consOk_cons (hb19) (laws_markBuf.ok N) (laws_markBuf.det N) (consOk_cons (hb20) (laws_markRing.ok N) (laws_markRing.det N) (consOk_cons (hb21) (laws_markUndo.ok N) (laws_markUndo.det N) (consOk_cons (hb22) (laws_markHist.ok N) (laws_markHist.det N) consOk_nil)))))))
theorem laws_markEd.ls (N : Nat) : LoopsOk Try.prog (laws_markEd.cfg N) (fnBody Try.f7) := loopsL (l := []) (by kernel_rfl) trivial
theorem laws_markEd.b (N : Nat) (x0 : den (.pair (.sl 57 (.pair (.int .i64) (.pair .str (.pair .str .unit)))) (.pair (.sl 60 (.pair .str (.pair .str .unit))) (.pair (.sl 25 (.sl 2 (.int .i64))) (.pair (.pair (.sl 2 (.int .i64)) (.pair (.int .i64) (.pair (.int .i64) .unit))) (.pair (.pair (.sl 25 (.sl 2 (.int .i64))) (.pair (.int .i64) .unit)) (.pair (.pair (.sl 27 (.pair (.sl 2 (.int .i64)) (.pair (.int .i64) (.pair (.int .i64) .unit)))) (.pair (.sl 27 (.pair (.sl 2 (.int .i64)) (.pair (.int .i64) (.pair (.int .i64) .unit)))) .unit)) (.pair (.pair (.sl 25 (.sl 2 (.int .i64))) (.pair (.int .i64) (.pair (.sl 2 (.int .i64)) .unit))) (.pair (.int .i64) (.pair .str (.pair (.int .i64) (.pair (.int .i64) (.pair (.int .i64) (.pair (.sl 25 (.sl 2 (.int .i64))) .unit)))))))))))))) (x1 : den (.int .i64)) : body (laws_markEd.cfg N) N Try.f7 [.one, .one] [.iov, .v] [(false, .imm)] [⟨(.pair (.sl 57 (.pair (.int .i64) (.pair .str (.pair .str .unit)))) (.pair (.sl 60 (.pair .str (.pair .str .unit))) (.pair (.sl 25 (.sl 2 (.int .i64))) (.pair (.pair (.sl 2 (.int .i64)) (.pair (.int .i64) (.pair (.int .i64) .unit))) (.pair (.pair (.sl 25 (.sl 2 (.int .i64))) (.pair (.int .i64) .unit)) (.pair (.pair (.sl 27 (.pair (.sl 2 (.int .i64)) (.pair (.int .i64) (.pair (.int .i64) .unit)))) (.pair (.sl 27 (.pair (.sl 2 (.int .i64)) (.pair (.int .i64) (.pair (.int .i64) .unit)))) .unit)) (.pair (.pair (.sl 25 (.sl 2 (.int .i64))) (.pair (.int .i64) (.pair (.sl 2 (.int .i64)) .unit))) (.pair (.int .i64) (.pair .str (.pair (.int .i64) (.pair (.int .i64) (.pair (.int .i64) (.pair (.sl 25 (.sl 2 (.int .i64))) .unit))))))))))))), (.pr (.own .imm) (.pr (.own .imm) (.pr (.own (.own .imm)) (.pr (.pr (.own .imm) .imm) (.pr (.pr (.own (.own .imm)) .imm) (.pr (.pr (.own (.pr (.own .imm) .imm)) (.pr (.own (.pr (.own .imm) .imm)) .imm)) (.pr (.pr (.own (.own .imm)) (.pr .imm (.pr (.own .imm) .imm))) (.pr .imm (.pr .imm (.pr .imm (.pr .imm (.pr .imm (.pr (.own (.own .imm)) .imm))))))))))))), x0⟩, ⟨(.int .i64), .imm, x1⟩] (fun r i => some (r, i)) = bindO (laws_markEd N x0 x1) fun r => some ([⟨(.int .i64), .imm, r.1⟩], [⟨(.pair (.sl 57 (.pair (.int .i64) (.pair .str (.pair .str .unit)))) (.pair (.sl 60 (.pair .str (.pair .str .unit))) (.pair (.sl 25 (.sl 2 (.int .i64))) (.pair (.pair (.sl 2 (.int .i64)) (.pair (.int .i64) (.pair (.int .i64) .unit))) (.pair (.pair (.sl 25 (.sl 2 (.int .i64))) (.pair (.int .i64) .unit)) (.pair (.pair (.sl 27 (.pair (.sl 2 (.int .i64)) (.pair (.int .i64) (.pair (.int .i64) .unit)))) (.pair (.sl 27 (.pair (.sl 2 (.int .i64)) (.pair (.int .i64) (.pair (.int .i64) .unit)))) .unit)) (.pair (.pair (.sl 25 (.sl 2 (.int .i64))) (.pair (.int .i64) (.pair (.sl 2 (.int .i64)) .unit))) (.pair (.int .i64) (.pair .str (.pair (.int .i64) (.pair (.int .i64) (.pair (.int .i64) (.pair (.sl 25 (.sl 2 (.int .i64))) .unit))))))))))))), (.pr (.own .imm) (.pr (.own .imm) (.pr (.own (.own .imm)) (.pr (.pr (.own .imm) .imm) (.pr (.pr (.own (.own .imm)) .imm) (.pr (.pr (.own (.pr (.own .imm) .imm)) (.pr (.own (.pr (.own .imm) .imm)) .imm)) (.pr (.pr (.own (.own .imm)) (.pr .imm (.pr (.own .imm) .imm))) (.pr .imm (.pr .imm (.pr .imm (.pr .imm (.pr .imm (.pr (.own (.own .imm)) .imm))))))))))))), r.2⟩]) := by
  show _ = bindF _ _
  conv => rhs; simp only [laws_markEd, bindF_ifB, bindF_bindO, bindF_pure, bindF_none, bindF_onSum]
  kernel_rfl
theorem laws_markEd.ok (N : Nat) : ConOk Try.prog 7 [.one, .one] (laws_markEd.con N) := by
  refine conOk_mk (g := laws_markEd.cfg N) (N := N) (res := [(false, .imm)]) tys_ok (laws_markEd.cons N) mixed Try.func7 (laws_markEd.ls N) rfl rfl ?_
  intro ds R k y h
  cases ds with
  | nil => exact none_some h
  | cons d0 ds =>
  cases ds with
  | nil => exact none_some h
  | cons d1 ds =>
  cases ds with
  | cons _ _ => exact none_some h
  | nil =>
  have h0 : (castDm (.pair (.sl 57 (.pair (.int .i64) (.pair .str (.pair .str .unit)))) (.pair (.sl 60 (.pair .str (.pair .str .unit))) (.pair (.sl 25 (.sl 2 (.int .i64))) (.pair (.pair (.sl 2 (.int .i64)) (.pair (.int .i64) (.pair (.int .i64) .unit))) (.pair (.pair (.sl 25 (.sl 2 (.int .i64))) (.pair (.int .i64) .unit)) (.pair (.pair (.sl 27 (.pair (.sl 2 (.int .i64)) (.pair (.int .i64) (.pair (.int .i64) .unit)))) (.pair (.sl 27 (.pair (.sl 2 (.int .i64)) (.pair (.int .i64) (.pair (.int .i64) .unit)))) .unit)) (.pair (.pair (.sl 25 (.sl 2 (.int .i64))) (.pair (.int .i64) (.pair (.sl 2 (.int .i64)) .unit))) (.pair (.int .i64) (.pair .str (.pair (.int .i64) (.pair (.int .i64) (.pair (.int .i64) (.pair (.sl 25 (.sl 2 (.int .i64))) .unit))))))))))))) (.pr (.own .imm) (.pr (.own .imm) (.pr (.own (.own .imm)) (.pr (.pr (.own .imm) .imm) (.pr (.pr (.own (.own .imm)) .imm) (.pr (.pr (.own (.pr (.own .imm) .imm)) (.pr (.own (.pr (.own .imm) .imm)) .imm)) (.pr (.pr (.own (.own .imm)) (.pr .imm (.pr (.own .imm) .imm))) (.pr .imm (.pr .imm (.pr .imm (.pr .imm (.pr .imm (.pr (.own (.own .imm)) .imm))))))))))))) d0 fun x0 => castDm (.int .i64) .imm d1 fun x1 => bindO (laws_markEd N x0 x1) fun r => k [⟨(.int .i64), .imm, r.1⟩] [⟨(.pair (.sl 57 (.pair (.int .i64) (.pair .str (.pair .str .unit)))) (.pair (.sl 60 (.pair .str (.pair .str .unit))) (.pair (.sl 25 (.sl 2 (.int .i64))) (.pair (.pair (.sl 2 (.int .i64)) (.pair (.int .i64) (.pair (.int .i64) .unit))) (.pair (.pair (.sl 25 (.sl 2 (.int .i64))) (.pair (.int .i64) .unit)) (.pair (.pair (.sl 27 (.pair (.sl 2 (.int .i64)) (.pair (.int .i64) (.pair (.int .i64) .unit)))) (.pair (.sl 27 (.pair (.sl 2 (.int .i64)) (.pair (.int .i64) (.pair (.int .i64) .unit)))) .unit)) (.pair (.pair (.sl 25 (.sl 2 (.int .i64))) (.pair (.int .i64) (.pair (.sl 2 (.int .i64)) .unit))) (.pair (.int .i64) (.pair .str (.pair (.int .i64) (.pair (.int .i64) (.pair (.int .i64) (.pair (.sl 25 (.sl 2 (.int .i64))) .unit))))))))))))), (.pr (.own .imm) (.pr (.own .imm) (.pr (.own (.own .imm)) (.pr (.pr (.own .imm) .imm) (.pr (.pr (.own (.own .imm)) .imm) (.pr (.pr (.own (.pr (.own .imm) .imm)) (.pr (.own (.pr (.own .imm) .imm)) .imm)) (.pr (.pr (.own (.own .imm)) (.pr .imm (.pr (.own .imm) .imm))) (.pr .imm (.pr .imm (.pr .imm (.pr .imm (.pr .imm (.pr (.own (.own .imm)) .imm))))))))))))), r.2⟩]) = some y := h
  clear h
  obtain ⟨x0, rfl, h1⟩ := castDm_eq h0
  obtain ⟨x1, rfl, h2⟩ := castDm_eq h1
  exact con_fin (laws_markEd.b N x0 x1) h2
theorem laws_markEd.det (N : Nat) : ConDet (laws_markEd.con N) := by
  intro ds R k y h
  cases ds with
  | nil => exact none_some h
  | cons d0 ds =>
  cases ds with
  | nil => exact none_some h
  | cons d1 ds =>
  cases ds with
  | cons _ _ => exact none_some h
  | nil =>
  have h0 : (castDm (.pair (.sl 57 (.pair (.int .i64) (.pair .str (.pair .str .unit)))) (.pair (.sl 60 (.pair .str (.pair .str .unit))) (.pair (.sl 25 (.sl 2 (.int .i64))) (.pair (.pair (.sl 2 (.int .i64)) (.pair (.int .i64) (.pair (.int .i64) .unit))) (.pair (.pair (.sl 25 (.sl 2 (.int .i64))) (.pair (.int .i64) .unit)) (.pair (.pair (.sl 27 (.pair (.sl 2 (.int .i64)) (.pair (.int .i64) (.pair (.int .i64) .unit)))) (.pair (.sl 27 (.pair (.sl 2 (.int .i64)) (.pair (.int .i64) (.pair (.int .i64) .unit)))) .unit)) (.pair (.pair (.sl 25 (.sl 2 (.int .i64))) (.pair (.int .i64) (.pair (.sl 2 (.int .i64)) .unit))) (.pair (.int .i64) (.pair .str (.pair (.int .i64) (.pair (.int .i64) (.pair (.int .i64) (.pair (.sl 25 (.sl 2 (.int .i64))) .unit))))))))))))) (.pr (.own .imm) (.pr (.own .imm) (.pr (.own (.own .imm)) (.pr (.pr (.own .imm) .imm) (.pr (.pr (.own (.own .imm)) .imm) (.pr (.pr (.own (.pr (.own .imm) .imm)) (.pr (.own (.pr (.own .imm) .imm)) .imm)) (.pr (.pr (.own (.own .imm)) (.pr .imm (.pr (.own .imm) .imm))) (.pr .imm (.pr .imm (.pr .imm (.pr .imm (.pr .imm (.pr (.own (.own .imm)) .imm))))))))))))) d0 fun x0 => castDm (.int .i64) .imm d1 fun x1 => bindO (laws_markEd N x0 x1) fun r => k [⟨(.int .i64), .imm, r.1⟩] [⟨(.pair (.sl 57 (.pair (.int .i64) (.pair .str (.pair .str .unit)))) (.pair (.sl 60 (.pair .str (.pair .str .unit))) (.pair (.sl 25 (.sl 2 (.int .i64))) (.pair (.pair (.sl 2 (.int .i64)) (.pair (.int .i64) (.pair (.int .i64) .unit))) (.pair (.pair (.sl 25 (.sl 2 (.int .i64))) (.pair (.int .i64) .unit)) (.pair (.pair (.sl 27 (.pair (.sl 2 (.int .i64)) (.pair (.int .i64) (.pair (.int .i64) .unit)))) (.pair (.sl 27 (.pair (.sl 2 (.int .i64)) (.pair (.int .i64) (.pair (.int .i64) .unit)))) .unit)) (.pair (.pair (.sl 25 (.sl 2 (.int .i64))) (.pair (.int .i64) (.pair (.sl 2 (.int .i64)) .unit))) (.pair (.int .i64) (.pair .str (.pair (.int .i64) (.pair (.int .i64) (.pair (.int .i64) (.pair (.sl 25 (.sl 2 (.int .i64))) .unit))))))))))))), (.pr (.own .imm) (.pr (.own .imm) (.pr (.own (.own .imm)) (.pr (.pr (.own .imm) .imm) (.pr (.pr (.own (.own .imm)) .imm) (.pr (.pr (.own (.pr (.own .imm) .imm)) (.pr (.own (.pr (.own .imm) .imm)) .imm)) (.pr (.pr (.own (.own .imm)) (.pr .imm (.pr (.own .imm) .imm))) (.pr .imm (.pr .imm (.pr .imm (.pr .imm (.pr .imm (.pr (.own (.own .imm)) .imm))))))))))))), r.2⟩]) = some y := h
  clear h
  obtain ⟨x0, rfl, h1⟩ := castDm_eq h0
  obtain ⟨x1, rfl, h2⟩ := castDm_eq h1
  obtain ⟨r, e, h⟩ := bindO_some h2
  refine ⟨_, _, h, fun k' => ?_⟩
  show (castDm (.pair (.sl 57 (.pair (.int .i64) (.pair .str (.pair .str .unit)))) (.pair (.sl 60 (.pair .str (.pair .str .unit))) (.pair (.sl 25 (.sl 2 (.int .i64))) (.pair (.pair (.sl 2 (.int .i64)) (.pair (.int .i64) (.pair (.int .i64) .unit))) (.pair (.pair (.sl 25 (.sl 2 (.int .i64))) (.pair (.int .i64) .unit)) (.pair (.pair (.sl 27 (.pair (.sl 2 (.int .i64)) (.pair (.int .i64) (.pair (.int .i64) .unit)))) (.pair (.sl 27 (.pair (.sl 2 (.int .i64)) (.pair (.int .i64) (.pair (.int .i64) .unit)))) .unit)) (.pair (.pair (.sl 25 (.sl 2 (.int .i64))) (.pair (.int .i64) (.pair (.sl 2 (.int .i64)) .unit))) (.pair (.int .i64) (.pair .str (.pair (.int .i64) (.pair (.int .i64) (.pair (.int .i64) (.pair (.sl 25 (.sl 2 (.int .i64))) .unit))))))))))))) (.pr (.own .imm) (.pr (.own .imm) (.pr (.own (.own .imm)) (.pr (.pr (.own .imm) .imm) (.pr (.pr (.own (.own .imm)) .imm) (.pr (.pr (.own (.pr (.own .imm) .imm)) (.pr (.own (.pr (.own .imm) .imm)) .imm)) (.pr (.pr (.own (.own .imm)) (.pr .imm (.pr (.own .imm) .imm))) (.pr .imm (.pr .imm (.pr .imm (.pr .imm (.pr .imm (.pr (.own (.own .imm)) .imm))))))))))))) (⟨(.pair (.sl 57 (.pair (.int .i64) (.pair .str (.pair .str .unit)))) (.pair (.sl 60 (.pair .str (.pair .str .unit))) (.pair (.sl 25 (.sl 2 (.int .i64))) (.pair (.pair (.sl 2 (.int .i64)) (.pair (.int .i64) (.pair (.int .i64) .unit))) (.pair (.pair (.sl 25 (.sl 2 (.int .i64))) (.pair (.int .i64) .unit)) (.pair (.pair (.sl 27 (.pair (.sl 2 (.int .i64)) (.pair (.int .i64) (.pair (.int .i64) .unit)))) (.pair (.sl 27 (.pair (.sl 2 (.int .i64)) (.pair (.int .i64) (.pair (.int .i64) .unit)))) .unit)) (.pair (.pair (.sl 25 (.sl 2 (.int .i64))) (.pair (.int .i64) (.pair (.sl 2 (.int .i64)) .unit))) (.pair (.int .i64) (.pair .str (.pair (.int .i64) (.pair (.int .i64) (.pair (.int .i64) (.pair (.sl 25 (.sl 2 (.int .i64))) .unit))))))))))))), (.pr (.own .imm) (.pr (.own .imm) (.pr (.own (.own .imm)) (.pr (.pr (.own .imm) .imm) (.pr (.pr (.own (.own .imm)) .imm) (.pr (.pr (.own (.pr (.own .imm) .imm)) (.pr (.own (.pr (.own .imm) .imm)) .imm)) (.pr (.pr (.own (.own .imm)) (.pr .imm (.pr (.own .imm) .imm))) (.pr .imm (.pr .imm (.pr .imm (.pr .imm (.pr .imm (.pr (.own (.own .imm)) .imm))))))))))))), x0⟩ : Dy) fun x0 => castDm (.int .i64) .imm (⟨(.int .i64), .imm, x1⟩ : Dy) fun x1 => bindO (laws_markEd N x0 x1) fun r => k' [⟨(.int .i64), .imm, r.1⟩] [⟨(.pair (.sl 57 (.pair (.int .i64) (.pair .str (.pair .str .unit)))) (.pair (.sl 60 (.pair .str (.pair .str .unit))) (.pair (.sl 25 (.sl 2 (.int .i64))) (.pair (.pair (.sl 2 (.int .i64)) (.pair (.int .i64) (.pair (.int .i64) .unit))) (.pair (.pair (.sl 25 (.sl 2 (.int .i64))) (.pair (.int .i64) .unit)) (.pair (.pair (.sl 27 (.pair (.sl 2 (.int .i64)) (.pair (.int .i64) (.pair (.int .i64) .unit)))) (.pair (.sl 27 (.pair (.sl 2 (.int .i64)) (.pair (.int .i64) (.pair (.int .i64) .unit)))) .unit)) (.pair (.pair (.sl 25 (.sl 2 (.int .i64))) (.pair (.int .i64) (.pair (.sl 2 (.int .i64)) .unit))) (.pair (.int .i64) (.pair .str (.pair (.int .i64) (.pair (.int .i64) (.pair (.int .i64) (.pair (.sl 25 (.sl 2 (.int .i64))) .unit))))))))))))), (.pr (.own .imm) (.pr (.own .imm) (.pr (.own (.own .imm)) (.pr (.pr (.own .imm) .imm) (.pr (.pr (.own (.own .imm)) .imm) (.pr (.pr (.own (.pr (.own .imm) .imm)) (.pr (.own (.pr (.own .imm) .imm)) .imm)) (.pr (.pr (.own (.own .imm)) (.pr .imm (.pr (.own .imm) .imm))) (.pr .imm (.pr .imm (.pr .imm (.pr .imm (.pr .imm (.pr (.own (.own .imm)) .imm))))))))))))), r.2⟩]) = _
  simp only [castDm_self]
  rw [e]
  rfl
def laws_heldKeyS.sk2 : Skel := ⟨[.pv (.sl 57 (.pair (.int .i64) (.pair .str (.pair .str .unit)))), .pv (.int .i64), .dead, .dead, .dead, .pv (.int .i64), .dead, .dead, .dead, .dead, .dead, .dead, .dead, .dead, .dead, .dead, .dead, .dead, .dead, .dead, .dead, .dead, .dead, .dead, .dead, .dead, .dead, .dead, .dead, .dead, .dead, .dead, .dead, .dead, .dead, .dead, .dead, .dead, .dead, .dead, .dead, .dead], []⟩
def laws_heldKeyS.xs2 : List XS := [⟨.exit 0, [1], ⟨[.dead, .pv (.int .i64), .dead, .dead, .dead, .dead, .dead, .dead, .dead, .dead, .dead, .dead, .dead, .dead, .dead, .dead, .dead, .dead, .dead, .dead, .dead, .dead, .dead, .dead, .dead, .dead, .dead, .dead, .dead, .dead, .dead, .dead, .dead, .dead, .dead, .dead, .dead, .dead, .dead, .dead, .dead, .dead], []⟩⟩, ⟨.ret, [4], ⟨[.dead, .dead, .dead, .dead, .pv (.int .i64), .dead, .dead, .dead, .dead, .dead, .dead, .dead, .dead, .dead, .dead, .dead, .dead, .dead, .dead, .dead, .dead, .dead, .dead, .dead, .dead, .dead, .dead, .dead, .dead, .dead, .dead, .dead, .dead, .dead, .dead, .dead, .dead, .dead, .dead, .dead, .dead, .dead], []⟩⟩]
noncomputable def laws_heldKeyS.con (N : Nat) : Con := { modes := [.v, .v], ptrs := [false], fn := fun ds k => match ds with | [d0, d1] => castDm (.sl 57 (.pair (.int .i64) (.pair .str (.pair .str .unit)))) .imm d0 fun x0 => castDm (.int .i64) .imm d1 fun x1 => bindO (laws_heldKeyS N x0 x1) fun r => k [⟨(.int .i64), .imm, r⟩] [] | _ => none }
noncomputable def laws_heldKeyS.cfg (N : Nat) : Cfg := { ty := tys, keep := [27, 37], flt := [], elm := [(22, (.own .imm)), (23, (.own .imm)), (24, (.own (.own .imm))), (25, (.own .imm)), (26, (.pr (.own .imm) .imm)), (27, (.pr (.own .imm) .imm)), (28, (.pr (.own (.own .imm)) .imm)), (29, (.pr (.own (.own .imm)) .imm)), (30, (.own (.pr (.own .imm) .imm))), (31, (.pr (.own (.pr (.own .imm) .imm)) (.pr (.own (.pr (.own .imm) .imm)) .imm))), (32, (.pr (.own (.pr (.own .imm) .imm)) (.pr (.own (.pr (.own .imm) .imm)) .imm))), (33, (.pr (.own (.own .imm)) (.pr .imm (.pr (.own .imm) .imm)))), (34, (.pr (.own (.own .imm)) (.pr .imm (.pr (.own .imm) .imm)))), (35, (.pr (.own .imm) (.pr (.own .imm) (.pr (.own (.own .imm)) (.pr (.pr (.own .imm) .imm) (.pr (.pr (.own (.own .imm)) .imm) (.pr (.pr (.own (.pr (.own .imm) .imm)) (.pr (.own (.pr (.own .imm) .imm)) .imm)) (.pr (.pr (.own (.own .imm)) (.pr .imm (.pr (.own .imm) .imm))) (.pr .imm (.pr .imm (.pr .imm (.pr .imm (.pr .imm (.pr (.own (.own .imm)) .imm)))))))))))))), (36, (.pr (.own .imm) (.pr (.own .imm) (.pr (.own (.own .imm)) (.pr (.pr (.own .imm) .imm) (.pr (.pr (.own (.own .imm)) .imm) (.pr (.pr (.own (.pr (.own .imm) .imm)) (.pr (.own (.pr (.own .imm) .imm)) .imm)) (.pr (.pr (.own (.own .imm)) (.pr .imm (.pr (.own .imm) .imm))) (.pr .imm (.pr .imm (.pr .imm (.pr .imm (.pr .imm (.pr (.own (.own .imm)) .imm)))))))))))))), (66, (.own .imm))], live := [(2, [0, 1, 5])], ord := [(7, [0, 1, 2, 3, 4, 5, 6, 7]), (10, [0, 1, 2, 3, 4, 5, 6, 7])], con := [((34, [.one]), laws_markText.con N)], loops := [(2, loopCon N laws_heldKeyS.sk2 laws_heldKeyS.xs2 (fun {R} => laws_heldKeyS.l2 (R := R) N))], joins := [] }
theorem laws_heldKeyS.cons (N : Nat) : ConsOk Try.prog (laws_heldKeyS.cfg N).con := (consOk_cons (hb34) (laws_markText.ok N) (laws_markText.det N) consOk_nil)
theorem laws_heldKeyS.h2 {R : Type} (N : Nat) (d : laws_heldKeyS.sk2.D) (kn : laws_heldKeyS.sk2.D → Option R) (kx : XD laws_heldKeyS.xs2 → Option R) : roundK (laws_heldKeyS.cfg N) N (nthLoop (fnBody Try.f23) 0) laws_heldKeyS.sk2 laws_heldKeyS.xs2 d kn kx = laws_heldKeyS.l2 N d kn kx := by kernel_rfl
theorem laws_heldKeyS.i2 (N : Nat) : LoopsOk Try.prog (laws_heldKeyS.cfg N) (nthLoop (fnBody Try.f23) 0) := loopsL (l := []) (by kernel_rfl) trivial
theorem laws_heldKeyS.o2 (N : Nat) : LoopOk Try.prog (nthLoop (fnBody Try.f23) 0) (loopCon N laws_heldKeyS.sk2 laws_heldKeyS.xs2 (fun {R} => laws_heldKeyS.l2 (R := R) N)) := loop_ok (g := laws_heldKeyS.cfg N) tys_ok (laws_heldKeyS.cons N) mixed (laws_heldKeyS.i2 N) (fun d kn kx => laws_heldKeyS.h2 N d kn kx)
theorem laws_heldKeyS.ls (N : Nat) : LoopsOk Try.prog (laws_heldKeyS.cfg N) (fnBody Try.f23) := loopsL (l := [nthLoop (fnBody Try.f23) 0]) (by kernel_rfl) ⟨loopOne (L0 := loopCon N laws_heldKeyS.sk2 laws_heldKeyS.xs2 (fun {R} => laws_heldKeyS.l2 (R := R) N)) (id := 2) (by kernel_rfl) (by kernel_rfl) (laws_heldKeyS.o2 N), trivial⟩
theorem laws_heldKeyS.q2 {R R' : Type} {N n : Nat} {d} {k} {g : R → Option R'} : bindF (loopP (laws_heldKeyS.l2 N) n d k) g = loopP (laws_heldKeyS.l2 N) n d fun e => bindF (k e) g := bindF_loopP (fun d kn kx => by simp only [laws_heldKeyS.l2, bindF_ifB, bindF_bindO, bindF_pure, bindF_none, bindF_onSum]) n d k
theorem laws_heldKeyS.b (N : Nat) (x0 : den (.sl 57 (.pair (.int .i64) (.pair .str (.pair .str .unit))))) (x1 : den (.int .i64)) : body (laws_heldKeyS.cfg N) N Try.f23 [.one, .one] [.v, .v] [(false, .imm)] [⟨(.sl 57 (.pair (.int .i64) (.pair .str (.pair .str .unit)))), .imm, x0⟩, ⟨(.int .i64), .imm, x1⟩] (fun r i => some (r, i)) = bindO (laws_heldKeyS N x0 x1) fun r => some ([⟨(.int .i64), .imm, r⟩], []) := by
  show _ = bindF _ _
  conv => rhs; simp only [laws_heldKeyS, bindF_ifB, bindF_bindO, bindF_pure, bindF_none, bindF_onSum, laws_heldKeyS.q2]
  kernel_rfl
theorem laws_heldKeyS.ok (N : Nat) : ConOk Try.prog 23 [.one, .one] (laws_heldKeyS.con N) := by
  refine conOk_mk (g := laws_heldKeyS.cfg N) (N := N) (res := [(false, .imm)]) tys_ok (laws_heldKeyS.cons N) mixed Try.func23 (laws_heldKeyS.ls N) rfl rfl ?_
  intro ds R k y h
  cases ds with
  | nil => exact none_some h
  | cons d0 ds =>
  cases ds with
  | nil => exact none_some h
  | cons d1 ds =>
  cases ds with
  | cons _ _ => exact none_some h
  | nil =>
  have h0 : (castDm (.sl 57 (.pair (.int .i64) (.pair .str (.pair .str .unit)))) .imm d0 fun x0 => castDm (.int .i64) .imm d1 fun x1 => bindO (laws_heldKeyS N x0 x1) fun r => k [⟨(.int .i64), .imm, r⟩] []) = some y := h
  clear h
  obtain ⟨x0, rfl, h1⟩ := castDm_eq h0
  obtain ⟨x1, rfl, h2⟩ := castDm_eq h1
  exact con_fin (laws_heldKeyS.b N x0 x1) h2
theorem laws_heldKeyS.det (N : Nat) : ConDet (laws_heldKeyS.con N) := by
  intro ds R k y h
  cases ds with
  | nil => exact none_some h
  | cons d0 ds =>
  cases ds with
  | nil => exact none_some h
  | cons d1 ds =>
  cases ds with
  | cons _ _ => exact none_some h
  | nil =>
  have h0 : (castDm (.sl 57 (.pair (.int .i64) (.pair .str (.pair .str .unit)))) .imm d0 fun x0 => castDm (.int .i64) .imm d1 fun x1 => bindO (laws_heldKeyS N x0 x1) fun r => k [⟨(.int .i64), .imm, r⟩] []) = some y := h
  clear h
  obtain ⟨x0, rfl, h1⟩ := castDm_eq h0
  obtain ⟨x1, rfl, h2⟩ := castDm_eq h1
  obtain ⟨r, e, h⟩ := bindO_some h2
  refine ⟨_, _, h, fun k' => ?_⟩
  show (castDm (.sl 57 (.pair (.int .i64) (.pair .str (.pair .str .unit)))) .imm (⟨(.sl 57 (.pair (.int .i64) (.pair .str (.pair .str .unit)))), .imm, x0⟩ : Dy) fun x0 => castDm (.int .i64) .imm (⟨(.int .i64), .imm, x1⟩ : Dy) fun x1 => bindO (laws_heldKeyS N x0 x1) fun r => k' [⟨(.int .i64), .imm, r⟩] []) = _
  simp only [castDm_self]
  rw [e]
  rfl
def laws_heldWidgetS.sk2 : Skel := ⟨[.pv (.sl 60 (.pair .str (.pair .str .unit))), .pv (.int .i64), .dead, .dead, .dead, .pv (.int .i64), .dead, .dead, .dead, .dead, .dead, .dead, .dead, .dead, .dead, .dead, .dead, .dead, .dead, .dead, .dead, .dead, .dead, .dead, .dead, .dead, .dead, .dead, .dead, .dead, .dead, .dead, .dead], []⟩
def laws_heldWidgetS.xs2 : List XS := [⟨.exit 0, [1], ⟨[.dead, .pv (.int .i64), .dead, .dead, .dead, .dead, .dead, .dead, .dead, .dead, .dead, .dead, .dead, .dead, .dead, .dead, .dead, .dead, .dead, .dead, .dead, .dead, .dead, .dead, .dead, .dead, .dead, .dead, .dead, .dead, .dead, .dead, .dead], []⟩⟩, ⟨.ret, [4], ⟨[.dead, .dead, .dead, .dead, .pv (.int .i64), .dead, .dead, .dead, .dead, .dead, .dead, .dead, .dead, .dead, .dead, .dead, .dead, .dead, .dead, .dead, .dead, .dead, .dead, .dead, .dead, .dead, .dead, .dead, .dead, .dead, .dead, .dead, .dead], []⟩⟩]
noncomputable def laws_heldWidgetS.con (N : Nat) : Con := { modes := [.v, .v], ptrs := [false], fn := fun ds k => match ds with | [d0, d1] => castDm (.sl 60 (.pair .str (.pair .str .unit))) .imm d0 fun x0 => castDm (.int .i64) .imm d1 fun x1 => bindO (laws_heldWidgetS N x0 x1) fun r => k [⟨(.int .i64), .imm, r⟩] [] | _ => none }
noncomputable def laws_heldWidgetS.cfg (N : Nat) : Cfg := { ty := tys, keep := [18, 28], flt := [], elm := [(22, (.own .imm)), (23, (.own .imm)), (24, (.own (.own .imm))), (25, (.own .imm)), (26, (.pr (.own .imm) .imm)), (27, (.pr (.own .imm) .imm)), (28, (.pr (.own (.own .imm)) .imm)), (29, (.pr (.own (.own .imm)) .imm)), (30, (.own (.pr (.own .imm) .imm))), (31, (.pr (.own (.pr (.own .imm) .imm)) (.pr (.own (.pr (.own .imm) .imm)) .imm))), (32, (.pr (.own (.pr (.own .imm) .imm)) (.pr (.own (.pr (.own .imm) .imm)) .imm))), (33, (.pr (.own (.own .imm)) (.pr .imm (.pr (.own .imm) .imm)))), (34, (.pr (.own (.own .imm)) (.pr .imm (.pr (.own .imm) .imm)))), (35, (.pr (.own .imm) (.pr (.own .imm) (.pr (.own (.own .imm)) (.pr (.pr (.own .imm) .imm) (.pr (.pr (.own (.own .imm)) .imm) (.pr (.pr (.own (.pr (.own .imm) .imm)) (.pr (.own (.pr (.own .imm) .imm)) .imm)) (.pr (.pr (.own (.own .imm)) (.pr .imm (.pr (.own .imm) .imm))) (.pr .imm (.pr .imm (.pr .imm (.pr .imm (.pr .imm (.pr (.own (.own .imm)) .imm)))))))))))))), (36, (.pr (.own .imm) (.pr (.own .imm) (.pr (.own (.own .imm)) (.pr (.pr (.own .imm) .imm) (.pr (.pr (.own (.own .imm)) .imm) (.pr (.pr (.own (.pr (.own .imm) .imm)) (.pr (.own (.pr (.own .imm) .imm)) .imm)) (.pr (.pr (.own (.own .imm)) (.pr .imm (.pr (.own .imm) .imm))) (.pr .imm (.pr .imm (.pr .imm (.pr .imm (.pr .imm (.pr (.own (.own .imm)) .imm)))))))))))))), (66, (.own .imm))], live := [(2, [0, 1, 5])], ord := [(4, [0, 1, 2, 3, 4, 5, 6, 7]), (7, [0, 1, 2, 3, 4, 5, 6, 7])], con := [((34, [.one]), laws_markText.con N)], loops := [(2, loopCon N laws_heldWidgetS.sk2 laws_heldWidgetS.xs2 (fun {R} => laws_heldWidgetS.l2 (R := R) N))], joins := [] }
theorem laws_heldWidgetS.cons (N : Nat) : ConsOk Try.prog (laws_heldWidgetS.cfg N).con := (consOk_cons (hb34) (laws_markText.ok N) (laws_markText.det N) consOk_nil)
theorem laws_heldWidgetS.h2 {R : Type} (N : Nat) (d : laws_heldWidgetS.sk2.D) (kn : laws_heldWidgetS.sk2.D → Option R) (kx : XD laws_heldWidgetS.xs2 → Option R) : roundK (laws_heldWidgetS.cfg N) N (nthLoop (fnBody Try.f24) 0) laws_heldWidgetS.sk2 laws_heldWidgetS.xs2 d kn kx = laws_heldWidgetS.l2 N d kn kx := by kernel_rfl
theorem laws_heldWidgetS.i2 (N : Nat) : LoopsOk Try.prog (laws_heldWidgetS.cfg N) (nthLoop (fnBody Try.f24) 0) := loopsL (l := []) (by kernel_rfl) trivial
theorem laws_heldWidgetS.o2 (N : Nat) : LoopOk Try.prog (nthLoop (fnBody Try.f24) 0) (loopCon N laws_heldWidgetS.sk2 laws_heldWidgetS.xs2 (fun {R} => laws_heldWidgetS.l2 (R := R) N)) := loop_ok (g := laws_heldWidgetS.cfg N) tys_ok (laws_heldWidgetS.cons N) mixed (laws_heldWidgetS.i2 N) (fun d kn kx => laws_heldWidgetS.h2 N d kn kx)
theorem laws_heldWidgetS.ls (N : Nat) : LoopsOk Try.prog (laws_heldWidgetS.cfg N) (fnBody Try.f24) := loopsL (l := [nthLoop (fnBody Try.f24) 0]) (by kernel_rfl) ⟨loopOne (L0 := loopCon N laws_heldWidgetS.sk2 laws_heldWidgetS.xs2 (fun {R} => laws_heldWidgetS.l2 (R := R) N)) (id := 2) (by kernel_rfl) (by kernel_rfl) (laws_heldWidgetS.o2 N), trivial⟩
theorem laws_heldWidgetS.q2 {R R' : Type} {N n : Nat} {d} {k} {g : R → Option R'} : bindF (loopP (laws_heldWidgetS.l2 N) n d k) g = loopP (laws_heldWidgetS.l2 N) n d fun e => bindF (k e) g := bindF_loopP (fun d kn kx => by simp only [laws_heldWidgetS.l2, bindF_ifB, bindF_bindO, bindF_pure, bindF_none, bindF_onSum]) n d k
theorem laws_heldWidgetS.b (N : Nat) (x0 : den (.sl 60 (.pair .str (.pair .str .unit)))) (x1 : den (.int .i64)) : body (laws_heldWidgetS.cfg N) N Try.f24 [.one, .one] [.v, .v] [(false, .imm)] [⟨(.sl 60 (.pair .str (.pair .str .unit))), .imm, x0⟩, ⟨(.int .i64), .imm, x1⟩] (fun r i => some (r, i)) = bindO (laws_heldWidgetS N x0 x1) fun r => some ([⟨(.int .i64), .imm, r⟩], []) := by
  show _ = bindF _ _
  conv => rhs; simp only [laws_heldWidgetS, bindF_ifB, bindF_bindO, bindF_pure, bindF_none, bindF_onSum, laws_heldWidgetS.q2]
  kernel_rfl
theorem laws_heldWidgetS.ok (N : Nat) : ConOk Try.prog 24 [.one, .one] (laws_heldWidgetS.con N) := by
  refine conOk_mk (g := laws_heldWidgetS.cfg N) (N := N) (res := [(false, .imm)]) tys_ok (laws_heldWidgetS.cons N) mixed Try.func24 (laws_heldWidgetS.ls N) rfl rfl ?_
  intro ds R k y h
  cases ds with
  | nil => exact none_some h
  | cons d0 ds =>
  cases ds with
  | nil => exact none_some h
  | cons d1 ds =>
  cases ds with
  | cons _ _ => exact none_some h
  | nil =>
  have h0 : (castDm (.sl 60 (.pair .str (.pair .str .unit))) .imm d0 fun x0 => castDm (.int .i64) .imm d1 fun x1 => bindO (laws_heldWidgetS N x0 x1) fun r => k [⟨(.int .i64), .imm, r⟩] []) = some y := h
  clear h
  obtain ⟨x0, rfl, h1⟩ := castDm_eq h0
  obtain ⟨x1, rfl, h2⟩ := castDm_eq h1
  exact con_fin (laws_heldWidgetS.b N x0 x1) h2
theorem laws_heldWidgetS.det (N : Nat) : ConDet (laws_heldWidgetS.con N) := by
  intro ds R k y h
  cases ds with
  | nil => exact none_some h
  | cons d0 ds =>
  cases ds with
  | nil => exact none_some h
  | cons d1 ds =>
  cases ds with
  | cons _ _ => exact none_some h
  | nil =>
  have h0 : (castDm (.sl 60 (.pair .str (.pair .str .unit))) .imm d0 fun x0 => castDm (.int .i64) .imm d1 fun x1 => bindO (laws_heldWidgetS N x0 x1) fun r => k [⟨(.int .i64), .imm, r⟩] []) = some y := h
  clear h
  obtain ⟨x0, rfl, h1⟩ := castDm_eq h0
  obtain ⟨x1, rfl, h2⟩ := castDm_eq h1
  obtain ⟨r, e, h⟩ := bindO_some h2
  refine ⟨_, _, h, fun k' => ?_⟩
  show (castDm (.sl 60 (.pair .str (.pair .str .unit))) .imm (⟨(.sl 60 (.pair .str (.pair .str .unit))), .imm, x0⟩ : Dy) fun x0 => castDm (.int .i64) .imm (⟨(.int .i64), .imm, x1⟩ : Dy) fun x1 => bindO (laws_heldWidgetS N x0 x1) fun r => k' [⟨(.int .i64), .imm, r⟩] []) = _
  simp only [castDm_self]
  rw [e]
  rfl
def laws_heldInt64S.sk2 : Skel := ⟨[.pv (.sl 2 (.int .i64)), .pv (.int .i64), .dead, .dead, .dead, .pv (.int .i64), .dead, .dead, .dead, .dead, .dead, .dead, .dead, .dead, .dead, .dead, .dead, .dead, .dead, .dead, .dead], []⟩
def laws_heldInt64S.xs2 : List XS := [⟨.exit 0, [1], ⟨[.dead, .pv (.int .i64), .dead, .dead, .dead, .dead, .dead, .dead, .dead, .dead, .dead, .dead, .dead, .dead, .dead, .dead, .dead, .dead, .dead, .dead, .dead], []⟩⟩, ⟨.ret, [4], ⟨[.dead, .dead, .dead, .dead, .pv (.int .i64), .dead, .dead, .dead, .dead, .dead, .dead, .dead, .dead, .dead, .dead, .dead, .dead, .dead, .dead, .dead, .dead], []⟩⟩]
noncomputable def laws_heldInt64S.con (N : Nat) : Con := { modes := [.v, .v], ptrs := [false], fn := fun ds k => match ds with | [d0, d1] => castDm (.sl 2 (.int .i64)) .imm d0 fun x0 => castDm (.int .i64) .imm d1 fun x1 => bindO (laws_heldInt64S N x0 x1) fun r => k [⟨(.int .i64), .imm, r⟩] [] | _ => none }
noncomputable def laws_heldInt64S.cfg (N : Nat) : Cfg := { ty := tys, keep := [], flt := [], elm := [(22, (.own .imm)), (23, (.own .imm)), (24, (.own (.own .imm))), (25, (.own .imm)), (26, (.pr (.own .imm) .imm)), (27, (.pr (.own .imm) .imm)), (28, (.pr (.own (.own .imm)) .imm)), (29, (.pr (.own (.own .imm)) .imm)), (30, (.own (.pr (.own .imm) .imm))), (31, (.pr (.own (.pr (.own .imm) .imm)) (.pr (.own (.pr (.own .imm) .imm)) .imm))), (32, (.pr (.own (.pr (.own .imm) .imm)) (.pr (.own (.pr (.own .imm) .imm)) .imm))), (33, (.pr (.own (.own .imm)) (.pr .imm (.pr (.own .imm) .imm)))), (34, (.pr (.own (.own .imm)) (.pr .imm (.pr (.own .imm) .imm)))), (35, (.pr (.own .imm) (.pr (.own .imm) (.pr (.own (.own .imm)) (.pr (.pr (.own .imm) .imm) (.pr (.pr (.own (.own .imm)) .imm) (.pr (.pr (.own (.pr (.own .imm) .imm)) (.pr (.own (.pr (.own .imm) .imm)) .imm)) (.pr (.pr (.own (.own .imm)) (.pr .imm (.pr (.own .imm) .imm))) (.pr .imm (.pr .imm (.pr .imm (.pr .imm (.pr .imm (.pr (.own (.own .imm)) .imm)))))))))))))), (36, (.pr (.own .imm) (.pr (.own .imm) (.pr (.own (.own .imm)) (.pr (.pr (.own .imm) .imm) (.pr (.pr (.own (.own .imm)) .imm) (.pr (.pr (.own (.pr (.own .imm) .imm)) (.pr (.own (.pr (.own .imm) .imm)) .imm)) (.pr (.pr (.own (.own .imm)) (.pr .imm (.pr (.own .imm) .imm))) (.pr .imm (.pr .imm (.pr .imm (.pr .imm (.pr .imm (.pr (.own (.own .imm)) .imm)))))))))))))), (66, (.own .imm))], live := [(2, [0, 1, 5])], ord := [], con := [], loops := [(2, loopCon N laws_heldInt64S.sk2 laws_heldInt64S.xs2 (fun {R} => laws_heldInt64S.l2 (R := R) N))], joins := [] }
theorem laws_heldInt64S.cons (N : Nat) : ConsOk Try.prog (laws_heldInt64S.cfg N).con := consOk_nil
theorem laws_heldInt64S.h2 {R : Type} (N : Nat) (d : laws_heldInt64S.sk2.D) (kn : laws_heldInt64S.sk2.D → Option R) (kx : XD laws_heldInt64S.xs2 → Option R) : roundK (laws_heldInt64S.cfg N) N (nthLoop (fnBody Try.f37) 0) laws_heldInt64S.sk2 laws_heldInt64S.xs2 d kn kx = laws_heldInt64S.l2 N d kn kx := by kernel_rfl
theorem laws_heldInt64S.i2 (N : Nat) : LoopsOk Try.prog (laws_heldInt64S.cfg N) (nthLoop (fnBody Try.f37) 0) := loopsL (l := []) (by kernel_rfl) trivial
theorem laws_heldInt64S.o2 (N : Nat) : LoopOk Try.prog (nthLoop (fnBody Try.f37) 0) (loopCon N laws_heldInt64S.sk2 laws_heldInt64S.xs2 (fun {R} => laws_heldInt64S.l2 (R := R) N)) := loop_ok (g := laws_heldInt64S.cfg N) tys_ok (laws_heldInt64S.cons N) mixed (laws_heldInt64S.i2 N) (fun d kn kx => laws_heldInt64S.h2 N d kn kx)
theorem laws_heldInt64S.ls (N : Nat) : LoopsOk Try.prog (laws_heldInt64S.cfg N) (fnBody Try.f37) := loopsL (l := [nthLoop (fnBody Try.f37) 0]) (by kernel_rfl) ⟨loopOne (L0 := loopCon N laws_heldInt64S.sk2 laws_heldInt64S.xs2 (fun {R} => laws_heldInt64S.l2 (R := R) N)) (id := 2) (by kernel_rfl) (by kernel_rfl) (laws_heldInt64S.o2 N), trivial⟩
theorem laws_heldInt64S.q2 {R R' : Type} {N n : Nat} {d} {k} {g : R → Option R'} : bindF (loopP (laws_heldInt64S.l2 N) n d k) g = loopP (laws_heldInt64S.l2 N) n d fun e => bindF (k e) g := bindF_loopP (fun d kn kx => by simp only [laws_heldInt64S.l2, bindF_ifB, bindF_bindO, bindF_pure, bindF_none, bindF_onSum]) n d k
theorem laws_heldInt64S.b (N : Nat) (x0 : den (.sl 2 (.int .i64))) (x1 : den (.int .i64)) : body (laws_heldInt64S.cfg N) N Try.f37 [.one, .one] [.v, .v] [(false, .imm)] [⟨(.sl 2 (.int .i64)), .imm, x0⟩, ⟨(.int .i64), .imm, x1⟩] (fun r i => some (r, i)) = bindO (laws_heldInt64S N x0 x1) fun r => some ([⟨(.int .i64), .imm, r⟩], []) := by
  show _ = bindF _ _
  conv => rhs; simp only [laws_heldInt64S, bindF_ifB, bindF_bindO, bindF_pure, bindF_none, bindF_onSum, laws_heldInt64S.q2]
  kernel_rfl
theorem laws_heldInt64S.ok (N : Nat) : ConOk Try.prog 37 [.one, .one] (laws_heldInt64S.con N) := by
  refine conOk_mk (g := laws_heldInt64S.cfg N) (N := N) (res := [(false, .imm)]) tys_ok (laws_heldInt64S.cons N) mixed Try.func37 (laws_heldInt64S.ls N) rfl rfl ?_
  intro ds R k y h
  cases ds with
  | nil => exact none_some h
  | cons d0 ds =>
  cases ds with
  | nil => exact none_some h
  | cons d1 ds =>
  cases ds with
  | cons _ _ => exact none_some h
  | nil =>
  have h0 : (castDm (.sl 2 (.int .i64)) .imm d0 fun x0 => castDm (.int .i64) .imm d1 fun x1 => bindO (laws_heldInt64S N x0 x1) fun r => k [⟨(.int .i64), .imm, r⟩] []) = some y := h
  clear h
  obtain ⟨x0, rfl, h1⟩ := castDm_eq h0
  obtain ⟨x1, rfl, h2⟩ := castDm_eq h1
  exact con_fin (laws_heldInt64S.b N x0 x1) h2
theorem laws_heldInt64S.det (N : Nat) : ConDet (laws_heldInt64S.con N) := by
  intro ds R k y h
  cases ds with
  | nil => exact none_some h
  | cons d0 ds =>
  cases ds with
  | nil => exact none_some h
  | cons d1 ds =>
  cases ds with
  | cons _ _ => exact none_some h
  | nil =>
  have h0 : (castDm (.sl 2 (.int .i64)) .imm d0 fun x0 => castDm (.int .i64) .imm d1 fun x1 => bindO (laws_heldInt64S N x0 x1) fun r => k [⟨(.int .i64), .imm, r⟩] []) = some y := h
  clear h
  obtain ⟨x0, rfl, h1⟩ := castDm_eq h0
  obtain ⟨x1, rfl, h2⟩ := castDm_eq h1
  obtain ⟨r, e, h⟩ := bindO_some h2
  refine ⟨_, _, h, fun k' => ?_⟩
  show (castDm (.sl 2 (.int .i64)) .imm (⟨(.sl 2 (.int .i64)), .imm, x0⟩ : Dy) fun x0 => castDm (.int .i64) .imm (⟨(.int .i64), .imm, x1⟩ : Dy) fun x1 => bindO (laws_heldInt64S N x0 x1) fun r => k' [⟨(.int .i64), .imm, r⟩] []) = _
  simp only [castDm_self]
  rw [e]
  rfl
def laws_heldInt64SS.sk2 : Skel := ⟨[.pv (.sl 25 (.sl 2 (.int .i64))), .pv (.int .i64), .dead, .dead, .dead, .pv (.int .i64), .dead, .dead, .dead, .dead, .dead, .dead, .dead, .dead, .dead, .dead, .dead, .dead, .dead, .dead, .dead], []⟩
def laws_heldInt64SS.xs2 : List XS := [⟨.exit 0, [1], ⟨[.dead, .pv (.int .i64), .dead, .dead, .dead, .dead, .dead, .dead, .dead, .dead, .dead, .dead, .dead, .dead, .dead, .dead, .dead, .dead, .dead, .dead, .dead], []⟩⟩, ⟨.ret, [4], ⟨[.dead, .dead, .dead, .dead, .pv (.int .i64), .dead, .dead, .dead, .dead, .dead, .dead, .dead, .dead, .dead, .dead, .dead, .dead, .dead, .dead, .dead, .dead], []⟩⟩]
noncomputable def laws_heldInt64SS.con (N : Nat) : Con := { modes := [.v, .v], ptrs := [false], fn := fun ds k => match ds with | [d0, d1] => castDm (.sl 25 (.sl 2 (.int .i64))) .imm d0 fun x0 => castDm (.int .i64) .imm d1 fun x1 => bindO (laws_heldInt64SS N x0 x1) fun r => k [⟨(.int .i64), .imm, r⟩] [] | _ => none }
noncomputable def laws_heldInt64SS.cfg (N : Nat) : Cfg := { ty := tys, keep := [17], flt := [], elm := [(22, (.own .imm)), (23, (.own .imm)), (24, (.own (.own .imm))), (25, (.own .imm)), (26, (.pr (.own .imm) .imm)), (27, (.pr (.own .imm) .imm)), (28, (.pr (.own (.own .imm)) .imm)), (29, (.pr (.own (.own .imm)) .imm)), (30, (.own (.pr (.own .imm) .imm))), (31, (.pr (.own (.pr (.own .imm) .imm)) (.pr (.own (.pr (.own .imm) .imm)) .imm))), (32, (.pr (.own (.pr (.own .imm) .imm)) (.pr (.own (.pr (.own .imm) .imm)) .imm))), (33, (.pr (.own (.own .imm)) (.pr .imm (.pr (.own .imm) .imm)))), (34, (.pr (.own (.own .imm)) (.pr .imm (.pr (.own .imm) .imm)))), (35, (.pr (.own .imm) (.pr (.own .imm) (.pr (.own (.own .imm)) (.pr (.pr (.own .imm) .imm) (.pr (.pr (.own (.own .imm)) .imm) (.pr (.pr (.own (.pr (.own .imm) .imm)) (.pr (.own (.pr (.own .imm) .imm)) .imm)) (.pr (.pr (.own (.own .imm)) (.pr .imm (.pr (.own .imm) .imm))) (.pr .imm (.pr .imm (.pr .imm (.pr .imm (.pr .imm (.pr (.own (.own .imm)) .imm)))))))))))))), (36, (.pr (.own .imm) (.pr (.own .imm) (.pr (.own (.own .imm)) (.pr (.pr (.own .imm) .imm) (.pr (.pr (.own (.own .imm)) .imm) (.pr (.pr (.own (.pr (.own .imm) .imm)) (.pr (.own (.pr (.own .imm) .imm)) .imm)) (.pr (.pr (.own (.own .imm)) (.pr .imm (.pr (.own .imm) .imm))) (.pr .imm (.pr .imm (.pr .imm (.pr .imm (.pr .imm (.pr (.own (.own .imm)) .imm)))))))))))))), (66, (.own .imm))], live := [(2, [0, 1, 5])], ord := [], con := [((37, [.one, .one]), laws_heldInt64S.con N)], loops := [(2, loopCon N laws_heldInt64SS.sk2 laws_heldInt64SS.xs2 (fun {R} => laws_heldInt64SS.l2 (R := R) N))], joins := [] }
theorem laws_heldInt64SS.cons (N : Nat) : ConsOk Try.prog (laws_heldInt64SS.cfg N).con := (consOk_cons (hb37) (laws_heldInt64S.ok N) (laws_heldInt64S.det N) consOk_nil)
theorem laws_heldInt64SS.h2 {R : Type} (N : Nat) (d : laws_heldInt64SS.sk2.D) (kn : laws_heldInt64SS.sk2.D → Option R) (kx : XD laws_heldInt64SS.xs2 → Option R) : roundK (laws_heldInt64SS.cfg N) N (nthLoop (fnBody Try.f25) 0) laws_heldInt64SS.sk2 laws_heldInt64SS.xs2 d kn kx = laws_heldInt64SS.l2 N d kn kx := by kernel_rfl
theorem laws_heldInt64SS.i2 (N : Nat) : LoopsOk Try.prog (laws_heldInt64SS.cfg N) (nthLoop (fnBody Try.f25) 0) := loopsL (l := []) (by kernel_rfl) trivial
theorem laws_heldInt64SS.o2 (N : Nat) : LoopOk Try.prog (nthLoop (fnBody Try.f25) 0) (loopCon N laws_heldInt64SS.sk2 laws_heldInt64SS.xs2 (fun {R} => laws_heldInt64SS.l2 (R := R) N)) := loop_ok (g := laws_heldInt64SS.cfg N) tys_ok (laws_heldInt64SS.cons N) mixed (laws_heldInt64SS.i2 N) (fun d kn kx => laws_heldInt64SS.h2 N d kn kx)
theorem laws_heldInt64SS.ls (N : Nat) : LoopsOk Try.prog (laws_heldInt64SS.cfg N) (fnBody Try.f25) := loopsL (l := [nthLoop (fnBody Try.f25) 0]) (by kernel_rfl) ⟨loopOne (L0 := loopCon N laws_heldInt64SS.sk2 laws_heldInt64SS.xs2 (fun {R} => laws_heldInt64SS.l2 (R := R) N)) (id := 2) (by kernel_rfl) (by kernel_rfl) (laws_heldInt64SS.o2 N), trivial⟩
theorem laws_heldInt64SS.q2 {R R' : Type} {N n : Nat} {d} {k} {g : R → Option R'} : bindF (loopP (laws_heldInt64SS.l2 N) n d k) g = loopP (laws_heldInt64SS.l2 N) n d fun e => bindF (k e) g := bindF_loopP (fun d kn kx => by simp only [laws_heldInt64SS.l2, bindF_ifB, bindF_bindO, bindF_pure, bindF_none, bindF_onSum]) n d k
theorem laws_heldInt64SS.b (N : Nat) (x0 : den (.sl 25 (.sl 2 (.int .i64)))) (x1 : den (.int .i64)) : body (laws_heldInt64SS.cfg N) N Try.f25 [.one, .one] [.v, .v] [(false, .imm)] [⟨(.sl 25 (.sl 2 (.int .i64))), .imm, x0⟩, ⟨(.int .i64), .imm, x1⟩] (fun r i => some (r, i)) = bindO (laws_heldInt64SS N x0 x1) fun r => some ([⟨(.int .i64), .imm, r⟩], []) := by
  show _ = bindF _ _
  conv => rhs; simp only [laws_heldInt64SS, bindF_ifB, bindF_bindO, bindF_pure, bindF_none, bindF_onSum, laws_heldInt64SS.q2]
  kernel_rfl
theorem laws_heldInt64SS.ok (N : Nat) : ConOk Try.prog 25 [.one, .one] (laws_heldInt64SS.con N) := by
  refine conOk_mk (g := laws_heldInt64SS.cfg N) (N := N) (res := [(false, .imm)]) tys_ok (laws_heldInt64SS.cons N) mixed Try.func25 (laws_heldInt64SS.ls N) rfl rfl ?_
  intro ds R k y h
  cases ds with
  | nil => exact none_some h
  | cons d0 ds =>
  cases ds with
  | nil => exact none_some h
  | cons d1 ds =>
  cases ds with
  | cons _ _ => exact none_some h
  | nil =>
  have h0 : (castDm (.sl 25 (.sl 2 (.int .i64))) .imm d0 fun x0 => castDm (.int .i64) .imm d1 fun x1 => bindO (laws_heldInt64SS N x0 x1) fun r => k [⟨(.int .i64), .imm, r⟩] []) = some y := h
  clear h
  obtain ⟨x0, rfl, h1⟩ := castDm_eq h0
  obtain ⟨x1, rfl, h2⟩ := castDm_eq h1
  exact con_fin (laws_heldInt64SS.b N x0 x1) h2
theorem laws_heldInt64SS.det (N : Nat) : ConDet (laws_heldInt64SS.con N) := by
  intro ds R k y h
  cases ds with
  | nil => exact none_some h
  | cons d0 ds =>
  cases ds with
  | nil => exact none_some h
  | cons d1 ds =>
  cases ds with
  | cons _ _ => exact none_some h
  | nil =>
  have h0 : (castDm (.sl 25 (.sl 2 (.int .i64))) .imm d0 fun x0 => castDm (.int .i64) .imm d1 fun x1 => bindO (laws_heldInt64SS N x0 x1) fun r => k [⟨(.int .i64), .imm, r⟩] []) = some y := h
  clear h
  obtain ⟨x0, rfl, h1⟩ := castDm_eq h0
  obtain ⟨x1, rfl, h2⟩ := castDm_eq h1
  obtain ⟨r, e, h⟩ := bindO_some h2
  refine ⟨_, _, h, fun k' => ?_⟩
  show (castDm (.sl 25 (.sl 2 (.int .i64))) .imm (⟨(.sl 25 (.sl 2 (.int .i64))), .imm, x0⟩ : Dy) fun x0 => castDm (.int .i64) .imm (⟨(.int .i64), .imm, x1⟩ : Dy) fun x1 => bindO (laws_heldInt64SS N x0 x1) fun r => k' [⟨(.int .i64), .imm, r⟩] []) = _
  simp only [castDm_self]
  rw [e]
  rfl
noncomputable def laws_heldBuf.con (N : Nat) : Con := { modes := [.v, .v], ptrs := [false], fn := fun ds k => match ds with | [d0, d1] => castDm (.pair (.sl 2 (.int .i64)) (.pair (.int .i64) (.pair (.int .i64) .unit))) .imm d0 fun x0 => castDm (.int .i64) .imm d1 fun x1 => bindO (laws_heldBuf N x0 x1) fun r => k [⟨(.int .i64), .imm, r⟩] [] | _ => none }
noncomputable def laws_heldBuf.cfg (N : Nat) : Cfg := { ty := tys, keep := [8], flt := [], elm := [(22, (.own .imm)), (23, (.own .imm)), (24, (.own (.own .imm))), (25, (.own .imm)), (26, (.pr (.own .imm) .imm)), (27, (.pr (.own .imm) .imm)), (28, (.pr (.own (.own .imm)) .imm)), (29, (.pr (.own (.own .imm)) .imm)), (30, (.own (.pr (.own .imm) .imm))), (31, (.pr (.own (.pr (.own .imm) .imm)) (.pr (.own (.pr (.own .imm) .imm)) .imm))), (32, (.pr (.own (.pr (.own .imm) .imm)) (.pr (.own (.pr (.own .imm) .imm)) .imm))), (33, (.pr (.own (.own .imm)) (.pr .imm (.pr (.own .imm) .imm)))), (34, (.pr (.own (.own .imm)) (.pr .imm (.pr (.own .imm) .imm)))), (35, (.pr (.own .imm) (.pr (.own .imm) (.pr (.own (.own .imm)) (.pr (.pr (.own .imm) .imm) (.pr (.pr (.own (.own .imm)) .imm) (.pr (.pr (.own (.pr (.own .imm) .imm)) (.pr (.own (.pr (.own .imm) .imm)) .imm)) (.pr (.pr (.own (.own .imm)) (.pr .imm (.pr (.own .imm) .imm))) (.pr .imm (.pr .imm (.pr .imm (.pr .imm (.pr .imm (.pr (.own (.own .imm)) .imm)))))))))))))), (36, (.pr (.own .imm) (.pr (.own .imm) (.pr (.own (.own .imm)) (.pr (.pr (.own .imm) .imm) (.pr (.pr (.own (.own .imm)) .imm) (.pr (.pr (.own (.pr (.own .imm) .imm)) (.pr (.own (.pr (.own .imm) .imm)) .imm)) (.pr (.pr (.own (.own .imm)) (.pr .imm (.pr (.own .imm) .imm))) (.pr .imm (.pr .imm (.pr .imm (.pr .imm (.pr .imm (.pr (.own (.own .imm)) .imm)))))))))))))), (66, (.own .imm))], live := [], ord := [], con := [((37, [.one, .one]), laws_heldInt64S.con N)], loops := [], joins := [] }
theorem laws_heldBuf.cons (N : Nat) : ConsOk Try.prog (laws_heldBuf.cfg N).con := (consOk_cons (hb37) (laws_heldInt64S.ok N) (laws_heldInt64S.det N) consOk_nil)
theorem laws_heldBuf.ls (N : Nat) : LoopsOk Try.prog (laws_heldBuf.cfg N) (fnBody Try.f26) := loopsL (l := []) (by kernel_rfl) trivial
theorem laws_heldBuf.b (N : Nat) (x0 : den (.pair (.sl 2 (.int .i64)) (.pair (.int .i64) (.pair (.int .i64) .unit)))) (x1 : den (.int .i64)) : body (laws_heldBuf.cfg N) N Try.f26 [.one, .one] [.v, .v] [(false, .imm)] [⟨(.pair (.sl 2 (.int .i64)) (.pair (.int .i64) (.pair (.int .i64) .unit))), .imm, x0⟩, ⟨(.int .i64), .imm, x1⟩] (fun r i => some (r, i)) = bindO (laws_heldBuf N x0 x1) fun r => some ([⟨(.int .i64), .imm, r⟩], []) := by
  show _ = bindF _ _
  conv => rhs; simp only [laws_heldBuf, bindF_ifB, bindF_bindO, bindF_pure, bindF_none, bindF_onSum]
  kernel_rfl
theorem laws_heldBuf.ok (N : Nat) : ConOk Try.prog 26 [.one, .one] (laws_heldBuf.con N) := by
  refine conOk_mk (g := laws_heldBuf.cfg N) (N := N) (res := [(false, .imm)]) tys_ok (laws_heldBuf.cons N) mixed Try.func26 (laws_heldBuf.ls N) rfl rfl ?_
  intro ds R k y h
  cases ds with
  | nil => exact none_some h
  | cons d0 ds =>
  cases ds with
  | nil => exact none_some h
  | cons d1 ds =>
  cases ds with
  | cons _ _ => exact none_some h
  | nil =>
  have h0 : (castDm (.pair (.sl 2 (.int .i64)) (.pair (.int .i64) (.pair (.int .i64) .unit))) .imm d0 fun x0 => castDm (.int .i64) .imm d1 fun x1 => bindO (laws_heldBuf N x0 x1) fun r => k [⟨(.int .i64), .imm, r⟩] []) = some y := h
  clear h
  obtain ⟨x0, rfl, h1⟩ := castDm_eq h0
  obtain ⟨x1, rfl, h2⟩ := castDm_eq h1
  exact con_fin (laws_heldBuf.b N x0 x1) h2
theorem laws_heldBuf.det (N : Nat) : ConDet (laws_heldBuf.con N) := by
  intro ds R k y h
  cases ds with
  | nil => exact none_some h
  | cons d0 ds =>
  cases ds with
  | nil => exact none_some h
  | cons d1 ds =>
  cases ds with
  | cons _ _ => exact none_some h
  | nil =>
  have h0 : (castDm (.pair (.sl 2 (.int .i64)) (.pair (.int .i64) (.pair (.int .i64) .unit))) .imm d0 fun x0 => castDm (.int .i64) .imm d1 fun x1 => bindO (laws_heldBuf N x0 x1) fun r => k [⟨(.int .i64), .imm, r⟩] []) = some y := h
  clear h
  obtain ⟨x0, rfl, h1⟩ := castDm_eq h0
  obtain ⟨x1, rfl, h2⟩ := castDm_eq h1
  obtain ⟨r, e, h⟩ := bindO_some h2
  refine ⟨_, _, h, fun k' => ?_⟩
  show (castDm (.pair (.sl 2 (.int .i64)) (.pair (.int .i64) (.pair (.int .i64) .unit))) .imm (⟨(.pair (.sl 2 (.int .i64)) (.pair (.int .i64) (.pair (.int .i64) .unit))), .imm, x0⟩ : Dy) fun x0 => castDm (.int .i64) .imm (⟨(.int .i64), .imm, x1⟩ : Dy) fun x1 => bindO (laws_heldBuf N x0 x1) fun r => k' [⟨(.int .i64), .imm, r⟩] []) = _
  simp only [castDm_self]
  rw [e]
  rfl
noncomputable def laws_heldRing.con (N : Nat) : Con := { modes := [.v, .v], ptrs := [false], fn := fun ds k => match ds with | [d0, d1] => castDm (.pair (.sl 25 (.sl 2 (.int .i64))) (.pair (.int .i64) .unit)) .imm d0 fun x0 => castDm (.int .i64) .imm d1 fun x1 => bindO (laws_heldRing N x0 x1) fun r => k [⟨(.int .i64), .imm, r⟩] [] | _ => none }
noncomputable def laws_heldRing.cfg (N : Nat) : Cfg := { ty := tys, keep := [8], flt := [], elm := [(22, (.own .imm)), (23, (.own .imm)), (24, (.own (.own .imm))), (25, (.own .imm)), (26, (.pr (.own .imm) .imm)), (27, (.pr (.own .imm) .imm)), (28, (.pr (.own (.own .imm)) .imm)), (29, (.pr (.own (.own .imm)) .imm)), (30, (.own (.pr (.own .imm) .imm))), (31, (.pr (.own (.pr (.own .imm) .imm)) (.pr (.own (.pr (.own .imm) .imm)) .imm))), (32, (.pr (.own (.pr (.own .imm) .imm)) (.pr (.own (.pr (.own .imm) .imm)) .imm))), (33, (.pr (.own (.own .imm)) (.pr .imm (.pr (.own .imm) .imm)))), (34, (.pr (.own (.own .imm)) (.pr .imm (.pr (.own .imm) .imm)))), (35, (.pr (.own .imm) (.pr (.own .imm) (.pr (.own (.own .imm)) (.pr (.pr (.own .imm) .imm) (.pr (.pr (.own (.own .imm)) .imm) (.pr (.pr (.own (.pr (.own .imm) .imm)) (.pr (.own (.pr (.own .imm) .imm)) .imm)) (.pr (.pr (.own (.own .imm)) (.pr .imm (.pr (.own .imm) .imm))) (.pr .imm (.pr .imm (.pr .imm (.pr .imm (.pr .imm (.pr (.own (.own .imm)) .imm)))))))))))))), (36, (.pr (.own .imm) (.pr (.own .imm) (.pr (.own (.own .imm)) (.pr (.pr (.own .imm) .imm) (.pr (.pr (.own (.own .imm)) .imm) (.pr (.pr (.own (.pr (.own .imm) .imm)) (.pr (.own (.pr (.own .imm) .imm)) .imm)) (.pr (.pr (.own (.own .imm)) (.pr .imm (.pr (.own .imm) .imm))) (.pr .imm (.pr .imm (.pr .imm (.pr .imm (.pr .imm (.pr (.own (.own .imm)) .imm)))))))))))))), (66, (.own .imm))], live := [], ord := [], con := [((25, [.one, .one]), laws_heldInt64SS.con N)], loops := [], joins := [] }
theorem laws_heldRing.cons (N : Nat) : ConsOk Try.prog (laws_heldRing.cfg N).con := (consOk_cons (hb25) (laws_heldInt64SS.ok N) (laws_heldInt64SS.det N) consOk_nil)
theorem laws_heldRing.ls (N : Nat) : LoopsOk Try.prog (laws_heldRing.cfg N) (fnBody Try.f27) := loopsL (l := []) (by kernel_rfl) trivial
theorem laws_heldRing.b (N : Nat) (x0 : den (.pair (.sl 25 (.sl 2 (.int .i64))) (.pair (.int .i64) .unit))) (x1 : den (.int .i64)) : body (laws_heldRing.cfg N) N Try.f27 [.one, .one] [.v, .v] [(false, .imm)] [⟨(.pair (.sl 25 (.sl 2 (.int .i64))) (.pair (.int .i64) .unit)), .imm, x0⟩, ⟨(.int .i64), .imm, x1⟩] (fun r i => some (r, i)) = bindO (laws_heldRing N x0 x1) fun r => some ([⟨(.int .i64), .imm, r⟩], []) := by
  show _ = bindF _ _
  conv => rhs; simp only [laws_heldRing, bindF_ifB, bindF_bindO, bindF_pure, bindF_none, bindF_onSum]
  kernel_rfl
theorem laws_heldRing.ok (N : Nat) : ConOk Try.prog 27 [.one, .one] (laws_heldRing.con N) := by
  refine conOk_mk (g := laws_heldRing.cfg N) (N := N) (res := [(false, .imm)]) tys_ok (laws_heldRing.cons N) mixed Try.func27 (laws_heldRing.ls N) rfl rfl ?_
  intro ds R k y h
  cases ds with
  | nil => exact none_some h
  | cons d0 ds =>
  cases ds with
  | nil => exact none_some h
  | cons d1 ds =>
  cases ds with
  | cons _ _ => exact none_some h
  | nil =>
  have h0 : (castDm (.pair (.sl 25 (.sl 2 (.int .i64))) (.pair (.int .i64) .unit)) .imm d0 fun x0 => castDm (.int .i64) .imm d1 fun x1 => bindO (laws_heldRing N x0 x1) fun r => k [⟨(.int .i64), .imm, r⟩] []) = some y := h
  clear h
  obtain ⟨x0, rfl, h1⟩ := castDm_eq h0
  obtain ⟨x1, rfl, h2⟩ := castDm_eq h1
  exact con_fin (laws_heldRing.b N x0 x1) h2
theorem laws_heldRing.det (N : Nat) : ConDet (laws_heldRing.con N) := by
  intro ds R k y h
  cases ds with
  | nil => exact none_some h
  | cons d0 ds =>
  cases ds with
  | nil => exact none_some h
  | cons d1 ds =>
  cases ds with
  | cons _ _ => exact none_some h
  | nil =>
  have h0 : (castDm (.pair (.sl 25 (.sl 2 (.int .i64))) (.pair (.int .i64) .unit)) .imm d0 fun x0 => castDm (.int .i64) .imm d1 fun x1 => bindO (laws_heldRing N x0 x1) fun r => k [⟨(.int .i64), .imm, r⟩] []) = some y := h
  clear h
  obtain ⟨x0, rfl, h1⟩ := castDm_eq h0
  obtain ⟨x1, rfl, h2⟩ := castDm_eq h1
  obtain ⟨r, e, h⟩ := bindO_some h2
  refine ⟨_, _, h, fun k' => ?_⟩
  show (castDm (.pair (.sl 25 (.sl 2 (.int .i64))) (.pair (.int .i64) .unit)) .imm (⟨(.pair (.sl 25 (.sl 2 (.int .i64))) (.pair (.int .i64) .unit)), .imm, x0⟩ : Dy) fun x0 => castDm (.int .i64) .imm (⟨(.int .i64), .imm, x1⟩ : Dy) fun x1 => bindO (laws_heldRing N x0 x1) fun r => k' [⟨(.int .i64), .imm, r⟩] []) = _
  simp only [castDm_self]
  rw [e]
  rfl
def laws_heldBufS.sk2 : Skel := ⟨[.pv (.sl 27 (.pair (.sl 2 (.int .i64)) (.pair (.int .i64) (.pair (.int .i64) .unit)))), .pv (.int .i64), .dead, .dead, .dead, .pv (.int .i64), .dead, .dead, .dead, .dead, .dead, .dead, .dead, .dead, .dead, .dead, .dead, .dead, .dead, .dead, .dead, .dead, .dead, .dead, .dead, .dead, .dead, .dead, .dead, .dead, .dead, .dead, .dead, .dead, .dead, .dead, .dead, .dead, .dead, .dead], []⟩
def laws_heldBufS.xs2 : List XS := [⟨.exit 0, [1], ⟨[.dead, .pv (.int .i64), .dead, .dead, .dead, .dead, .dead, .dead, .dead, .dead, .dead, .dead, .dead, .dead, .dead, .dead, .dead, .dead, .dead, .dead, .dead, .dead, .dead, .dead, .dead, .dead, .dead, .dead, .dead, .dead, .dead, .dead, .dead, .dead, .dead, .dead, .dead, .dead, .dead, .dead], []⟩⟩, ⟨.ret, [4], ⟨[.dead, .dead, .dead, .dead, .pv (.int .i64), .dead, .dead, .dead, .dead, .dead, .dead, .dead, .dead, .dead, .dead, .dead, .dead, .dead, .dead, .dead, .dead, .dead, .dead, .dead, .dead, .dead, .dead, .dead, .dead, .dead, .dead, .dead, .dead, .dead, .dead, .dead, .dead, .dead, .dead, .dead], []⟩⟩]
noncomputable def laws_heldBufS.con (N : Nat) : Con := { modes := [.v, .v], ptrs := [false], fn := fun ds k => match ds with | [d0, d1] => castDm (.sl 27 (.pair (.sl 2 (.int .i64)) (.pair (.int .i64) (.pair (.int .i64) .unit)))) .imm d0 fun x0 => castDm (.int .i64) .imm d1 fun x1 => bindO (laws_heldBufS N x0 x1) fun r => k [⟨(.int .i64), .imm, r⟩] [] | _ => none }
noncomputable def laws_heldBufS.cfg (N : Nat) : Cfg := { ty := tys, keep := [18], flt := [], elm := [(22, (.own .imm)), (23, (.own .imm)), (24, (.own (.own .imm))), (25, (.own .imm)), (26, (.pr (.own .imm) .imm)), (27, (.pr (.own .imm) .imm)), (28, (.pr (.own (.own .imm)) .imm)), (29, (.pr (.own (.own .imm)) .imm)), (30, (.own (.pr (.own .imm) .imm))), (31, (.pr (.own (.pr (.own .imm) .imm)) (.pr (.own (.pr (.own .imm) .imm)) .imm))), (32, (.pr (.own (.pr (.own .imm) .imm)) (.pr (.own (.pr (.own .imm) .imm)) .imm))), (33, (.pr (.own (.own .imm)) (.pr .imm (.pr (.own .imm) .imm)))), (34, (.pr (.own (.own .imm)) (.pr .imm (.pr (.own .imm) .imm)))), (35, (.pr (.own .imm) (.pr (.own .imm) (.pr (.own (.own .imm)) (.pr (.pr (.own .imm) .imm) (.pr (.pr (.own (.own .imm)) .imm) (.pr (.pr (.own (.pr (.own .imm) .imm)) (.pr (.own (.pr (.own .imm) .imm)) .imm)) (.pr (.pr (.own (.own .imm)) (.pr .imm (.pr (.own .imm) .imm))) (.pr .imm (.pr .imm (.pr .imm (.pr .imm (.pr .imm (.pr (.own (.own .imm)) .imm)))))))))))))), (36, (.pr (.own .imm) (.pr (.own .imm) (.pr (.own (.own .imm)) (.pr (.pr (.own .imm) .imm) (.pr (.pr (.own (.own .imm)) .imm) (.pr (.pr (.own (.pr (.own .imm) .imm)) (.pr (.own (.pr (.own .imm) .imm)) .imm)) (.pr (.pr (.own (.own .imm)) (.pr .imm (.pr (.own .imm) .imm))) (.pr .imm (.pr .imm (.pr .imm (.pr .imm (.pr .imm (.pr (.own (.own .imm)) .imm)))))))))))))), (66, (.own .imm))], live := [(2, [0, 1, 5])], ord := [], con := [((37, [.one, .one]), laws_heldInt64S.con N)], loops := [(2, loopCon N laws_heldBufS.sk2 laws_heldBufS.xs2 (fun {R} => laws_heldBufS.l2 (R := R) N))], joins := [] }
theorem laws_heldBufS.cons (N : Nat) : ConsOk Try.prog (laws_heldBufS.cfg N).con := (consOk_cons (hb37) (laws_heldInt64S.ok N) (laws_heldInt64S.det N) consOk_nil)
theorem laws_heldBufS.h2 {R : Type} (N : Nat) (d : laws_heldBufS.sk2.D) (kn : laws_heldBufS.sk2.D → Option R) (kx : XD laws_heldBufS.xs2 → Option R) : roundK (laws_heldBufS.cfg N) N (nthLoop (fnBody Try.f38) 0) laws_heldBufS.sk2 laws_heldBufS.xs2 d kn kx = laws_heldBufS.l2 N d kn kx := by kernel_rfl
theorem laws_heldBufS.i2 (N : Nat) : LoopsOk Try.prog (laws_heldBufS.cfg N) (nthLoop (fnBody Try.f38) 0) := loopsL (l := []) (by kernel_rfl) trivial
theorem laws_heldBufS.o2 (N : Nat) : LoopOk Try.prog (nthLoop (fnBody Try.f38) 0) (loopCon N laws_heldBufS.sk2 laws_heldBufS.xs2 (fun {R} => laws_heldBufS.l2 (R := R) N)) := loop_ok (g := laws_heldBufS.cfg N) tys_ok (laws_heldBufS.cons N) mixed (laws_heldBufS.i2 N) (fun d kn kx => laws_heldBufS.h2 N d kn kx)
theorem laws_heldBufS.ls (N : Nat) : LoopsOk Try.prog (laws_heldBufS.cfg N) (fnBody Try.f38) := loopsL (l := [nthLoop (fnBody Try.f38) 0]) (by kernel_rfl) ⟨loopOne (L0 := loopCon N laws_heldBufS.sk2 laws_heldBufS.xs2 (fun {R} => laws_heldBufS.l2 (R := R) N)) (id := 2) (by kernel_rfl) (by kernel_rfl) (laws_heldBufS.o2 N), trivial⟩
theorem laws_heldBufS.q2 {R R' : Type} {N n : Nat} {d} {k} {g : R → Option R'} : bindF (loopP (laws_heldBufS.l2 N) n d k) g = loopP (laws_heldBufS.l2 N) n d fun e => bindF (k e) g := bindF_loopP (fun d kn kx => by simp only [laws_heldBufS.l2, bindF_ifB, bindF_bindO, bindF_pure, bindF_none, bindF_onSum]) n d k
theorem laws_heldBufS.b (N : Nat) (x0 : den (.sl 27 (.pair (.sl 2 (.int .i64)) (.pair (.int .i64) (.pair (.int .i64) .unit))))) (x1 : den (.int .i64)) : body (laws_heldBufS.cfg N) N Try.f38 [.one, .one] [.v, .v] [(false, .imm)] [⟨(.sl 27 (.pair (.sl 2 (.int .i64)) (.pair (.int .i64) (.pair (.int .i64) .unit)))), .imm, x0⟩, ⟨(.int .i64), .imm, x1⟩] (fun r i => some (r, i)) = bindO (laws_heldBufS N x0 x1) fun r => some ([⟨(.int .i64), .imm, r⟩], []) := by
  show _ = bindF _ _
  conv => rhs; simp only [laws_heldBufS, bindF_ifB, bindF_bindO, bindF_pure, bindF_none, bindF_onSum, laws_heldBufS.q2]
  kernel_rfl
theorem laws_heldBufS.ok (N : Nat) : ConOk Try.prog 38 [.one, .one] (laws_heldBufS.con N) := by
  refine conOk_mk (g := laws_heldBufS.cfg N) (N := N) (res := [(false, .imm)]) tys_ok (laws_heldBufS.cons N) mixed Try.func38 (laws_heldBufS.ls N) rfl rfl ?_
  intro ds R k y h
  cases ds with
  | nil => exact none_some h
  | cons d0 ds =>
  cases ds with
  | nil => exact none_some h
  | cons d1 ds =>
  cases ds with
  | cons _ _ => exact none_some h
  | nil =>
  have h0 : (castDm (.sl 27 (.pair (.sl 2 (.int .i64)) (.pair (.int .i64) (.pair (.int .i64) .unit)))) .imm d0 fun x0 => castDm (.int .i64) .imm d1 fun x1 => bindO (laws_heldBufS N x0 x1) fun r => k [⟨(.int .i64), .imm, r⟩] []) = some y := h
  clear h
  obtain ⟨x0, rfl, h1⟩ := castDm_eq h0
  obtain ⟨x1, rfl, h2⟩ := castDm_eq h1
  exact con_fin (laws_heldBufS.b N x0 x1) h2
theorem laws_heldBufS.det (N : Nat) : ConDet (laws_heldBufS.con N) := by
  intro ds R k y h
  cases ds with
  | nil => exact none_some h
  | cons d0 ds =>
  cases ds with
  | nil => exact none_some h
  | cons d1 ds =>
  cases ds with
  | cons _ _ => exact none_some h
  | nil =>
  have h0 : (castDm (.sl 27 (.pair (.sl 2 (.int .i64)) (.pair (.int .i64) (.pair (.int .i64) .unit)))) .imm d0 fun x0 => castDm (.int .i64) .imm d1 fun x1 => bindO (laws_heldBufS N x0 x1) fun r => k [⟨(.int .i64), .imm, r⟩] []) = some y := h
  clear h
  obtain ⟨x0, rfl, h1⟩ := castDm_eq h0
  obtain ⟨x1, rfl, h2⟩ := castDm_eq h1
  obtain ⟨r, e, h⟩ := bindO_some h2
  refine ⟨_, _, h, fun k' => ?_⟩
  show (castDm (.sl 27 (.pair (.sl 2 (.int .i64)) (.pair (.int .i64) (.pair (.int .i64) .unit)))) .imm (⟨(.sl 27 (.pair (.sl 2 (.int .i64)) (.pair (.int .i64) (.pair (.int .i64) .unit)))), .imm, x0⟩ : Dy) fun x0 => castDm (.int .i64) .imm (⟨(.int .i64), .imm, x1⟩ : Dy) fun x1 => bindO (laws_heldBufS N x0 x1) fun r => k' [⟨(.int .i64), .imm, r⟩] []) = _
  simp only [castDm_self]
  rw [e]
  rfl
noncomputable def laws_heldUndo.con (N : Nat) : Con := { modes := [.v, .v], ptrs := [false], fn := fun ds k => match ds with | [d0, d1] => castDm (.pair (.sl 27 (.pair (.sl 2 (.int .i64)) (.pair (.int .i64) (.pair (.int .i64) .unit)))) (.pair (.sl 27 (.pair (.sl 2 (.int .i64)) (.pair (.int .i64) (.pair (.int .i64) .unit)))) .unit)) .imm d0 fun x0 => castDm (.int .i64) .imm d1 fun x1 => bindO (laws_heldUndo N x0 x1) fun r => k [⟨(.int .i64), .imm, r⟩] [] | _ => none }
noncomputable def laws_heldUndo.cfg (N : Nat) : Cfg := { ty := tys, keep := [8, 14], flt := [], elm := [(22, (.own .imm)), (23, (.own .imm)), (24, (.own (.own .imm))), (25, (.own .imm)), (26, (.pr (.own .imm) .imm)), (27, (.pr (.own .imm) .imm)), (28, (.pr (.own (.own .imm)) .imm)), (29, (.pr (.own (.own .imm)) .imm)), (30, (.own (.pr (.own .imm) .imm))), (31, (.pr (.own (.pr (.own .imm) .imm)) (.pr (.own (.pr (.own .imm) .imm)) .imm))), (32, (.pr (.own (.pr (.own .imm) .imm)) (.pr (.own (.pr (.own .imm) .imm)) .imm))), (33, (.pr (.own (.own .imm)) (.pr .imm (.pr (.own .imm) .imm)))), (34, (.pr (.own (.own .imm)) (.pr .imm (.pr (.own .imm) .imm)))), (35, (.pr (.own .imm) (.pr (.own .imm) (.pr (.own (.own .imm)) (.pr (.pr (.own .imm) .imm) (.pr (.pr (.own (.own .imm)) .imm) (.pr (.pr (.own (.pr (.own .imm) .imm)) (.pr (.own (.pr (.own .imm) .imm)) .imm)) (.pr (.pr (.own (.own .imm)) (.pr .imm (.pr (.own .imm) .imm))) (.pr .imm (.pr .imm (.pr .imm (.pr .imm (.pr .imm (.pr (.own (.own .imm)) .imm)))))))))))))), (36, (.pr (.own .imm) (.pr (.own .imm) (.pr (.own (.own .imm)) (.pr (.pr (.own .imm) .imm) (.pr (.pr (.own (.own .imm)) .imm) (.pr (.pr (.own (.pr (.own .imm) .imm)) (.pr (.own (.pr (.own .imm) .imm)) .imm)) (.pr (.pr (.own (.own .imm)) (.pr .imm (.pr (.own .imm) .imm))) (.pr .imm (.pr .imm (.pr .imm (.pr .imm (.pr .imm (.pr (.own (.own .imm)) .imm)))))))))))))), (66, (.own .imm))], live := [], ord := [], con := [((38, [.one, .one]), laws_heldBufS.con N)], loops := [], joins := [] }
theorem laws_heldUndo.cons (N : Nat) : ConsOk Try.prog (laws_heldUndo.cfg N).con := (consOk_cons (hb38) (laws_heldBufS.ok N) (laws_heldBufS.det N) consOk_nil)
theorem laws_heldUndo.ls (N : Nat) : LoopsOk Try.prog (laws_heldUndo.cfg N) (fnBody Try.f28) := loopsL (l := []) (by kernel_rfl) trivial
theorem laws_heldUndo.b (N : Nat) (x0 : den (.pair (.sl 27 (.pair (.sl 2 (.int .i64)) (.pair (.int .i64) (.pair (.int .i64) .unit)))) (.pair (.sl 27 (.pair (.sl 2 (.int .i64)) (.pair (.int .i64) (.pair (.int .i64) .unit)))) .unit))) (x1 : den (.int .i64)) : body (laws_heldUndo.cfg N) N Try.f28 [.one, .one] [.v, .v] [(false, .imm)] [⟨(.pair (.sl 27 (.pair (.sl 2 (.int .i64)) (.pair (.int .i64) (.pair (.int .i64) .unit)))) (.pair (.sl 27 (.pair (.sl 2 (.int .i64)) (.pair (.int .i64) (.pair (.int .i64) .unit)))) .unit)), .imm, x0⟩, ⟨(.int .i64), .imm, x1⟩] (fun r i => some (r, i)) = bindO (laws_heldUndo N x0 x1) fun r => some ([⟨(.int .i64), .imm, r⟩], []) := by
  show _ = bindF _ _
  conv => rhs; simp only [laws_heldUndo, bindF_ifB, bindF_bindO, bindF_pure, bindF_none, bindF_onSum]
  kernel_rfl
theorem laws_heldUndo.ok (N : Nat) : ConOk Try.prog 28 [.one, .one] (laws_heldUndo.con N) := by
  refine conOk_mk (g := laws_heldUndo.cfg N) (N := N) (res := [(false, .imm)]) tys_ok (laws_heldUndo.cons N) mixed Try.func28 (laws_heldUndo.ls N) rfl rfl ?_
  intro ds R k y h
  cases ds with
  | nil => exact none_some h
  | cons d0 ds =>
  cases ds with
  | nil => exact none_some h
  | cons d1 ds =>
  cases ds with
  | cons _ _ => exact none_some h
  | nil =>
  have h0 : (castDm (.pair (.sl 27 (.pair (.sl 2 (.int .i64)) (.pair (.int .i64) (.pair (.int .i64) .unit)))) (.pair (.sl 27 (.pair (.sl 2 (.int .i64)) (.pair (.int .i64) (.pair (.int .i64) .unit)))) .unit)) .imm d0 fun x0 => castDm (.int .i64) .imm d1 fun x1 => bindO (laws_heldUndo N x0 x1) fun r => k [⟨(.int .i64), .imm, r⟩] []) = some y := h
  clear h
  obtain ⟨x0, rfl, h1⟩ := castDm_eq h0
  obtain ⟨x1, rfl, h2⟩ := castDm_eq h1
  exact con_fin (laws_heldUndo.b N x0 x1) h2
theorem laws_heldUndo.det (N : Nat) : ConDet (laws_heldUndo.con N) := by
  intro ds R k y h
  cases ds with
  | nil => exact none_some h
  | cons d0 ds =>
  cases ds with
  | nil => exact none_some h
  | cons d1 ds =>
  cases ds with
  | cons _ _ => exact none_some h
  | nil =>
  have h0 : (castDm (.pair (.sl 27 (.pair (.sl 2 (.int .i64)) (.pair (.int .i64) (.pair (.int .i64) .unit)))) (.pair (.sl 27 (.pair (.sl 2 (.int .i64)) (.pair (.int .i64) (.pair (.int .i64) .unit)))) .unit)) .imm d0 fun x0 => castDm (.int .i64) .imm d1 fun x1 => bindO (laws_heldUndo N x0 x1) fun r => k [⟨(.int .i64), .imm, r⟩] []) = some y := h
  clear h
  obtain ⟨x0, rfl, h1⟩ := castDm_eq h0
  obtain ⟨x1, rfl, h2⟩ := castDm_eq h1
  obtain ⟨r, e, h⟩ := bindO_some h2
  refine ⟨_, _, h, fun k' => ?_⟩
  show (castDm (.pair (.sl 27 (.pair (.sl 2 (.int .i64)) (.pair (.int .i64) (.pair (.int .i64) .unit)))) (.pair (.sl 27 (.pair (.sl 2 (.int .i64)) (.pair (.int .i64) (.pair (.int .i64) .unit)))) .unit)) .imm (⟨(.pair (.sl 27 (.pair (.sl 2 (.int .i64)) (.pair (.int .i64) (.pair (.int .i64) .unit)))) (.pair (.sl 27 (.pair (.sl 2 (.int .i64)) (.pair (.int .i64) (.pair (.int .i64) .unit)))) .unit)), .imm, x0⟩ : Dy) fun x0 => castDm (.int .i64) .imm (⟨(.int .i64), .imm, x1⟩ : Dy) fun x1 => bindO (laws_heldUndo N x0 x1) fun r => k' [⟨(.int .i64), .imm, r⟩] []) = _
  simp only [castDm_self]
  rw [e]
  rfl
noncomputable def laws_heldHist.con (N : Nat) : Con := { modes := [.v, .v], ptrs := [false], fn := fun ds k => match ds with | [d0, d1] => castDm (.pair (.sl 25 (.sl 2 (.int .i64))) (.pair (.int .i64) (.pair (.sl 2 (.int .i64)) .unit))) .imm d0 fun x0 => castDm (.int .i64) .imm d1 fun x1 => bindO (laws_heldHist N x0 x1) fun r => k [⟨(.int .i64), .imm, r⟩] [] | _ => none }
noncomputable def laws_heldHist.cfg (N : Nat) : Cfg := { ty := tys, keep := [8, 14], flt := [], elm := [(22, (.own .imm)), (23, (.own .imm)), (24, (.own (.own .imm))), (25, (.own .imm)), (26, (.pr (.own .imm) .imm)), (27, (.pr (.own .imm) .imm)), (28, (.pr (.own (.own .imm)) .imm)), (29, (.pr (.own (.own .imm)) .imm)), (30, (.own (.pr (.own .imm) .imm))), (31, (.pr (.own (.pr (.own .imm) .imm)) (.pr (.own (.pr (.own .imm) .imm)) .imm))), (32, (.pr (.own (.pr (.own .imm) .imm)) (.pr (.own (.pr (.own .imm) .imm)) .imm))), (33, (.pr (.own (.own .imm)) (.pr .imm (.pr (.own .imm) .imm)))), (34, (.pr (.own (.own .imm)) (.pr .imm (.pr (.own .imm) .imm)))), (35, (.pr (.own .imm) (.pr (.own .imm) (.pr (.own (.own .imm)) (.pr (.pr (.own .imm) .imm) (.pr (.pr (.own (.own .imm)) .imm) (.pr (.pr (.own (.pr (.own .imm) .imm)) (.pr (.own (.pr (.own .imm) .imm)) .imm)) (.pr (.pr (.own (.own .imm)) (.pr .imm (.pr (.own .imm) .imm))) (.pr .imm (.pr .imm (.pr .imm (.pr .imm (.pr .imm (.pr (.own (.own .imm)) .imm)))))))))))))), (36, (.pr (.own .imm) (.pr (.own .imm) (.pr (.own (.own .imm)) (.pr (.pr (.own .imm) .imm) (.pr (.pr (.own (.own .imm)) .imm) (.pr (.pr (.own (.pr (.own .imm) .imm)) (.pr (.own (.pr (.own .imm) .imm)) .imm)) (.pr (.pr (.own (.own .imm)) (.pr .imm (.pr (.own .imm) .imm))) (.pr .imm (.pr .imm (.pr .imm (.pr .imm (.pr .imm (.pr (.own (.own .imm)) .imm)))))))))))))), (66, (.own .imm))], live := [], ord := [], con := [((25, [.one, .one]), laws_heldInt64SS.con N), ((37, [.one, .one]), laws_heldInt64S.con N)], loops := [], joins := [] }
theorem laws_heldHist.cons (N : Nat) : ConsOk Try.prog (laws_heldHist.cfg N).con := (consOk_cons (hb25) (laws_heldInt64SS.ok N) (laws_heldInt64SS.det N) (consOk_cons (hb37) (laws_heldInt64S.ok N) (laws_heldInt64S.det N) consOk_nil))
theorem laws_heldHist.ls (N : Nat) : LoopsOk Try.prog (laws_heldHist.cfg N) (fnBody Try.f29) := loopsL (l := []) (by kernel_rfl) trivial
theorem laws_heldHist.b (N : Nat) (x0 : den (.pair (.sl 25 (.sl 2 (.int .i64))) (.pair (.int .i64) (.pair (.sl 2 (.int .i64)) .unit)))) (x1 : den (.int .i64)) : body (laws_heldHist.cfg N) N Try.f29 [.one, .one] [.v, .v] [(false, .imm)] [⟨(.pair (.sl 25 (.sl 2 (.int .i64))) (.pair (.int .i64) (.pair (.sl 2 (.int .i64)) .unit))), .imm, x0⟩, ⟨(.int .i64), .imm, x1⟩] (fun r i => some (r, i)) = bindO (laws_heldHist N x0 x1) fun r => some ([⟨(.int .i64), .imm, r⟩], []) := by
  show _ = bindF _ _
  conv => rhs; simp only [laws_heldHist, bindF_ifB, bindF_bindO, bindF_pure, bindF_none, bindF_onSum]
  kernel_rfl
theorem laws_heldHist.ok (N : Nat) : ConOk Try.prog 29 [.one, .one] (laws_heldHist.con N) := by
  refine conOk_mk (g := laws_heldHist.cfg N) (N := N) (res := [(false, .imm)]) tys_ok (laws_heldHist.cons N) mixed Try.func29 (laws_heldHist.ls N) rfl rfl ?_
  intro ds R k y h
  cases ds with
  | nil => exact none_some h
  | cons d0 ds =>
  cases ds with
  | nil => exact none_some h
  | cons d1 ds =>
  cases ds with
  | cons _ _ => exact none_some h
  | nil =>
  have h0 : (castDm (.pair (.sl 25 (.sl 2 (.int .i64))) (.pair (.int .i64) (.pair (.sl 2 (.int .i64)) .unit))) .imm d0 fun x0 => castDm (.int .i64) .imm d1 fun x1 => bindO (laws_heldHist N x0 x1) fun r => k [⟨(.int .i64), .imm, r⟩] []) = some y := h
  clear h
  obtain ⟨x0, rfl, h1⟩ := castDm_eq h0
  obtain ⟨x1, rfl, h2⟩ := castDm_eq h1
  exact con_fin (laws_heldHist.b N x0 x1) h2
theorem laws_heldHist.det (N : Nat) : ConDet (laws_heldHist.con N) := by
  intro ds R k y h
  cases ds with
  | nil => exact none_some h
  | cons d0 ds =>
  cases ds with
  | nil => exact none_some h
  | cons d1 ds =>
  cases ds with
  | cons _ _ => exact none_some h
  | nil =>
  have h0 : (castDm (.pair (.sl 25 (.sl 2 (.int .i64))) (.pair (.int .i64) (.pair (.sl 2 (.int .i64)) .unit))) .imm d0 fun x0 => castDm (.int .i64) .imm d1 fun x1 => bindO (laws_heldHist N x0 x1) fun r => k [⟨(.int .i64), .imm, r⟩] []) = some y := h
  clear h
  obtain ⟨x0, rfl, h1⟩ := castDm_eq h0
  obtain ⟨x1, rfl, h2⟩ := castDm_eq h1
  obtain ⟨r, e, h⟩ := bindO_some h2
  refine ⟨_, _, h, fun k' => ?_⟩
  show (castDm (.pair (.sl 25 (.sl 2 (.int .i64))) (.pair (.int .i64) (.pair (.sl 2 (.int .i64)) .unit))) .imm (⟨(.pair (.sl 25 (.sl 2 (.int .i64))) (.pair (.int .i64) (.pair (.sl 2 (.int .i64)) .unit))), .imm, x0⟩ : Dy) fun x0 => castDm (.int .i64) .imm (⟨(.int .i64), .imm, x1⟩ : Dy) fun x1 => bindO (laws_heldHist N x0 x1) fun r => k' [⟨(.int .i64), .imm, r⟩] []) = _
  simp only [castDm_self]
  rw [e]
  rfl
noncomputable def laws_heldEd.con (N : Nat) : Con := { modes := [.v, .v], ptrs := [false], fn := fun ds k => match ds with | [d0, d1] => castDm (.pair (.sl 57 (.pair (.int .i64) (.pair .str (.pair .str .unit)))) (.pair (.sl 60 (.pair .str (.pair .str .unit))) (.pair (.sl 25 (.sl 2 (.int .i64))) (.pair (.pair (.sl 2 (.int .i64)) (.pair (.int .i64) (.pair (.int .i64) .unit))) (.pair (.pair (.sl 25 (.sl 2 (.int .i64))) (.pair (.int .i64) .unit)) (.pair (.pair (.sl 27 (.pair (.sl 2 (.int .i64)) (.pair (.int .i64) (.pair (.int .i64) .unit)))) (.pair (.sl 27 (.pair (.sl 2 (.int .i64)) (.pair (.int .i64) (.pair (.int .i64) .unit)))) .unit)) (.pair (.pair (.sl 25 (.sl 2 (.int .i64))) (.pair (.int .i64) (.pair (.sl 2 (.int .i64)) .unit))) (.pair (.int .i64) (.pair .str (.pair (.int .i64) (.pair (.int .i64) (.pair (.int .i64) (.pair (.sl 25 (.sl 2 (.int .i64))) .unit))))))))))))) .imm d0 fun x0 => castDm (.int .i64) .imm d1 fun x1 => bindO (laws_heldEd N x0 x1) fun r => k [⟨(.int .i64), .imm, r⟩] [] | _ => none }
noncomputable def laws_heldEd.cfg (N : Nat) : Cfg := { ty := tys, keep := [8, 14, 20, 26, 32, 38, 44, 50], flt := [], elm := [(22, (.own .imm)), (23, (.own .imm)), (24, (.own (.own .imm))), (25, (.own .imm)), (26, (.pr (.own .imm) .imm)), (27, (.pr (.own .imm) .imm)), (28, (.pr (.own (.own .imm)) .imm)), (29, (.pr (.own (.own .imm)) .imm)), (30, (.own (.pr (.own .imm) .imm))), (31, (.pr (.own (.pr (.own .imm) .imm)) (.pr (.own (.pr (.own .imm) .imm)) .imm))), (32, (.pr (.own (.pr (.own .imm) .imm)) (.pr (.own (.pr (.own .imm) .imm)) .imm))), (33, (.pr (.own (.own .imm)) (.pr .imm (.pr (.own .imm) .imm)))), (34, (.pr (.own (.own .imm)) (.pr .imm (.pr (.own .imm) .imm)))), (35, (.pr (.own .imm) (.pr (.own .imm) (.pr (.own (.own .imm)) (.pr (.pr (.own .imm) .imm) (.pr (.pr (.own (.own .imm)) .imm) (.pr (.pr (.own (.pr (.own .imm) .imm)) (.pr (.own (.pr (.own .imm) .imm)) .imm)) (.pr (.pr (.own (.own .imm)) (.pr .imm (.pr (.own .imm) .imm))) (.pr .imm (.pr .imm (.pr .imm (.pr .imm (.pr .imm (.pr (.own (.own .imm)) .imm)))))))))))))), (36, (.pr (.own .imm) (.pr (.own .imm) (.pr (.own (.own .imm)) (.pr (.pr (.own .imm) .imm) (.pr (.pr (.own (.own .imm)) .imm) (.pr (.pr (.own (.pr (.own .imm) .imm)) (.pr (.own (.pr (.own .imm) .imm)) .imm)) (.pr (.pr (.own (.own .imm)) (.pr .imm (.pr (.own .imm) .imm))) (.pr .imm (.pr .imm (.pr .imm (.pr .imm (.pr .imm (.pr (.own (.own .imm)) .imm)))))))))))))), (66, (.own .imm))], live := [], ord := [], con := [((23, [.one, .one]), laws_heldKeyS.con N), ((24, [.one, .one]), laws_heldWidgetS.con N), ((25, [.one, .one]), laws_heldInt64SS.con N), ((26, [.one, .one]), laws_heldBuf.con N), ((27, [.one, .one]), laws_heldRing.con N), ((28, [.one, .one]), laws_heldUndo.con N), ((29, [.one, .one]), laws_heldHist.con N)], loops := [], joins := [] }
theorem laws_heldEd.cons (N : Nat) : ConsOk Try.prog (laws_heldEd.cfg N).con := (consOk_cons (hb23) (laws_heldKeyS.ok N) (laws_heldKeyS.det N) (consOk_cons (hb24) (laws_heldWidgetS.ok N) (laws_heldWidgetS.det N) (consOk_cons (hb25) (laws_heldInt64SS.ok N) (laws_heldInt64SS.det N) (consOk_cons (hb26) (laws_heldBuf.ok N) (laws_heldBuf.det N) (consOk_cons (hb27) (laws_heldRing.ok N) (laws_heldRing.det N) (consOk_cons (hb28) (laws_heldUndo.ok N) (laws_heldUndo.det N) (consOk_cons (hb29) (laws_heldHist.ok N) (laws_heldHist.det N) consOk_nil)))))))
theorem laws_heldEd.ls (N : Nat) : LoopsOk Try.prog (laws_heldEd.cfg N) (fnBody Try.f8) := loopsL (l := []) (by kernel_rfl) trivial
theorem laws_heldEd.b (N : Nat) (x0 : den (.pair (.sl 57 (.pair (.int .i64) (.pair .str (.pair .str .unit)))) (.pair (.sl 60 (.pair .str (.pair .str .unit))) (.pair (.sl 25 (.sl 2 (.int .i64))) (.pair (.pair (.sl 2 (.int .i64)) (.pair (.int .i64) (.pair (.int .i64) .unit))) (.pair (.pair (.sl 25 (.sl 2 (.int .i64))) (.pair (.int .i64) .unit)) (.pair (.pair (.sl 27 (.pair (.sl 2 (.int .i64)) (.pair (.int .i64) (.pair (.int .i64) .unit)))) (.pair (.sl 27 (.pair (.sl 2 (.int .i64)) (.pair (.int .i64) (.pair (.int .i64) .unit)))) .unit)) (.pair (.pair (.sl 25 (.sl 2 (.int .i64))) (.pair (.int .i64) (.pair (.sl 2 (.int .i64)) .unit))) (.pair (.int .i64) (.pair .str (.pair (.int .i64) (.pair (.int .i64) (.pair (.int .i64) (.pair (.sl 25 (.sl 2 (.int .i64))) .unit)))))))))))))) (x1 : den (.int .i64)) : body (laws_heldEd.cfg N) N Try.f8 [.one, .one] [.v, .v] [(false, .imm)] [⟨(.pair (.sl 57 (.pair (.int .i64) (.pair .str (.pair .str .unit)))) (.pair (.sl 60 (.pair .str (.pair .str .unit))) (.pair (.sl 25 (.sl 2 (.int .i64))) (.pair (.pair (.sl 2 (.int .i64)) (.pair (.int .i64) (.pair (.int .i64) .unit))) (.pair (.pair (.sl 25 (.sl 2 (.int .i64))) (.pair (.int .i64) .unit)) (.pair (.pair (.sl 27 (.pair (.sl 2 (.int .i64)) (.pair (.int .i64) (.pair (.int .i64) .unit)))) (.pair (.sl 27 (.pair (.sl 2 (.int .i64)) (.pair (.int .i64) (.pair (.int .i64) .unit)))) .unit)) (.pair (.pair (.sl 25 (.sl 2 (.int .i64))) (.pair (.int .i64) (.pair (.sl 2 (.int .i64)) .unit))) (.pair (.int .i64) (.pair .str (.pair (.int .i64) (.pair (.int .i64) (.pair (.int .i64) (.pair (.sl 25 (.sl 2 (.int .i64))) .unit))))))))))))), .imm, x0⟩, ⟨(.int .i64), .imm, x1⟩] (fun r i => some (r, i)) = bindO (laws_heldEd N x0 x1) fun r => some ([⟨(.int .i64), .imm, r⟩], []) := by
  show _ = bindF _ _
  conv => rhs; simp only [laws_heldEd, bindF_ifB, bindF_bindO, bindF_pure, bindF_none, bindF_onSum]
  kernel_rfl
theorem laws_heldEd.ok (N : Nat) : ConOk Try.prog 8 [.one, .one] (laws_heldEd.con N) := by
  refine conOk_mk (g := laws_heldEd.cfg N) (N := N) (res := [(false, .imm)]) tys_ok (laws_heldEd.cons N) mixed Try.func8 (laws_heldEd.ls N) rfl rfl ?_
  intro ds R k y h
  cases ds with
  | nil => exact none_some h
  | cons d0 ds =>
  cases ds with
  | nil => exact none_some h
  | cons d1 ds =>
  cases ds with
  | cons _ _ => exact none_some h
  | nil =>
  have h0 : (castDm (.pair (.sl 57 (.pair (.int .i64) (.pair .str (.pair .str .unit)))) (.pair (.sl 60 (.pair .str (.pair .str .unit))) (.pair (.sl 25 (.sl 2 (.int .i64))) (.pair (.pair (.sl 2 (.int .i64)) (.pair (.int .i64) (.pair (.int .i64) .unit))) (.pair (.pair (.sl 25 (.sl 2 (.int .i64))) (.pair (.int .i64) .unit)) (.pair (.pair (.sl 27 (.pair (.sl 2 (.int .i64)) (.pair (.int .i64) (.pair (.int .i64) .unit)))) (.pair (.sl 27 (.pair (.sl 2 (.int .i64)) (.pair (.int .i64) (.pair (.int .i64) .unit)))) .unit)) (.pair (.pair (.sl 25 (.sl 2 (.int .i64))) (.pair (.int .i64) (.pair (.sl 2 (.int .i64)) .unit))) (.pair (.int .i64) (.pair .str (.pair (.int .i64) (.pair (.int .i64) (.pair (.int .i64) (.pair (.sl 25 (.sl 2 (.int .i64))) .unit))))))))))))) .imm d0 fun x0 => castDm (.int .i64) .imm d1 fun x1 => bindO (laws_heldEd N x0 x1) fun r => k [⟨(.int .i64), .imm, r⟩] []) = some y := h
  clear h
  obtain ⟨x0, rfl, h1⟩ := castDm_eq h0
  obtain ⟨x1, rfl, h2⟩ := castDm_eq h1
  exact con_fin (laws_heldEd.b N x0 x1) h2
theorem laws_heldEd.det (N : Nat) : ConDet (laws_heldEd.con N) := by
  intro ds R k y h
  cases ds with
  | nil => exact none_some h
  | cons d0 ds =>
  cases ds with
  | nil => exact none_some h
  | cons d1 ds =>
  cases ds with
  | cons _ _ => exact none_some h
  | nil =>
  have h0 : (castDm (.pair (.sl 57 (.pair (.int .i64) (.pair .str (.pair .str .unit)))) (.pair (.sl 60 (.pair .str (.pair .str .unit))) (.pair (.sl 25 (.sl 2 (.int .i64))) (.pair (.pair (.sl 2 (.int .i64)) (.pair (.int .i64) (.pair (.int .i64) .unit))) (.pair (.pair (.sl 25 (.sl 2 (.int .i64))) (.pair (.int .i64) .unit)) (.pair (.pair (.sl 27 (.pair (.sl 2 (.int .i64)) (.pair (.int .i64) (.pair (.int .i64) .unit)))) (.pair (.sl 27 (.pair (.sl 2 (.int .i64)) (.pair (.int .i64) (.pair (.int .i64) .unit)))) .unit)) (.pair (.pair (.sl 25 (.sl 2 (.int .i64))) (.pair (.int .i64) (.pair (.sl 2 (.int .i64)) .unit))) (.pair (.int .i64) (.pair .str (.pair (.int .i64) (.pair (.int .i64) (.pair (.int .i64) (.pair (.sl 25 (.sl 2 (.int .i64))) .unit))))))))))))) .imm d0 fun x0 => castDm (.int .i64) .imm d1 fun x1 => bindO (laws_heldEd N x0 x1) fun r => k [⟨(.int .i64), .imm, r⟩] []) = some y := h
  clear h
  obtain ⟨x0, rfl, h1⟩ := castDm_eq h0
  obtain ⟨x1, rfl, h2⟩ := castDm_eq h1
  obtain ⟨r, e, h⟩ := bindO_some h2
  refine ⟨_, _, h, fun k' => ?_⟩
  show (castDm (.pair (.sl 57 (.pair (.int .i64) (.pair .str (.pair .str .unit)))) (.pair (.sl 60 (.pair .str (.pair .str .unit))) (.pair (.sl 25 (.sl 2 (.int .i64))) (.pair (.pair (.sl 2 (.int .i64)) (.pair (.int .i64) (.pair (.int .i64) .unit))) (.pair (.pair (.sl 25 (.sl 2 (.int .i64))) (.pair (.int .i64) .unit)) (.pair (.pair (.sl 27 (.pair (.sl 2 (.int .i64)) (.pair (.int .i64) (.pair (.int .i64) .unit)))) (.pair (.sl 27 (.pair (.sl 2 (.int .i64)) (.pair (.int .i64) (.pair (.int .i64) .unit)))) .unit)) (.pair (.pair (.sl 25 (.sl 2 (.int .i64))) (.pair (.int .i64) (.pair (.sl 2 (.int .i64)) .unit))) (.pair (.int .i64) (.pair .str (.pair (.int .i64) (.pair (.int .i64) (.pair (.int .i64) (.pair (.sl 25 (.sl 2 (.int .i64))) .unit))))))))))))) .imm (⟨(.pair (.sl 57 (.pair (.int .i64) (.pair .str (.pair .str .unit)))) (.pair (.sl 60 (.pair .str (.pair .str .unit))) (.pair (.sl 25 (.sl 2 (.int .i64))) (.pair (.pair (.sl 2 (.int .i64)) (.pair (.int .i64) (.pair (.int .i64) .unit))) (.pair (.pair (.sl 25 (.sl 2 (.int .i64))) (.pair (.int .i64) .unit)) (.pair (.pair (.sl 27 (.pair (.sl 2 (.int .i64)) (.pair (.int .i64) (.pair (.int .i64) .unit)))) (.pair (.sl 27 (.pair (.sl 2 (.int .i64)) (.pair (.int .i64) (.pair (.int .i64) .unit)))) .unit)) (.pair (.pair (.sl 25 (.sl 2 (.int .i64))) (.pair (.int .i64) (.pair (.sl 2 (.int .i64)) .unit))) (.pair (.int .i64) (.pair .str (.pair (.int .i64) (.pair (.int .i64) (.pair (.int .i64) (.pair (.sl 25 (.sl 2 (.int .i64))) .unit))))))))))))), .imm, x0⟩ : Dy) fun x0 => castDm (.int .i64) .imm (⟨(.int .i64), .imm, x1⟩ : Dy) fun x1 => bindO (laws_heldEd N x0 x1) fun r => k' [⟨(.int .i64), .imm, r⟩] []) = _
  simp only [castDm_self]
  rw [e]
  rfl
noncomputable def laws_FnExactEdNew.con (N : Nat) : Con := { modes := [], ptrs := [false], fn := fun ds k => match ds with | [] => bindO (laws_FnExactEdNew N) fun r => k [⟨.bool, .imm, r⟩] [] | _ => none }
noncomputable def laws_FnExactEdNew.cfg (N : Nat) : Cfg := { ty := tys, keep := [6, 7, 10, 14, 17, 23, 26, 30], flt := [], elm := [(22, (.own .imm)), (23, (.own .imm)), (24, (.own (.own .imm))), (25, (.own .imm)), (26, (.pr (.own .imm) .imm)), (27, (.pr (.own .imm) .imm)), (28, (.pr (.own (.own .imm)) .imm)), (29, (.pr (.own (.own .imm)) .imm)), (30, (.own (.pr (.own .imm) .imm))), (31, (.pr (.own (.pr (.own .imm) .imm)) (.pr (.own (.pr (.own .imm) .imm)) .imm))), (32, (.pr (.own (.pr (.own .imm) .imm)) (.pr (.own (.pr (.own .imm) .imm)) .imm))), (33, (.pr (.own (.own .imm)) (.pr .imm (.pr (.own .imm) .imm)))), (34, (.pr (.own (.own .imm)) (.pr .imm (.pr (.own .imm) .imm)))), (35, (.pr (.own .imm) (.pr (.own .imm) (.pr (.own (.own .imm)) (.pr (.pr (.own .imm) .imm) (.pr (.pr (.own (.own .imm)) .imm) (.pr (.pr (.own (.pr (.own .imm) .imm)) (.pr (.own (.pr (.own .imm) .imm)) .imm)) (.pr (.pr (.own (.own .imm)) (.pr .imm (.pr (.own .imm) .imm))) (.pr .imm (.pr .imm (.pr .imm (.pr .imm (.pr .imm (.pr (.own (.own .imm)) .imm)))))))))))))), (36, (.pr (.own .imm) (.pr (.own .imm) (.pr (.own (.own .imm)) (.pr (.pr (.own .imm) .imm) (.pr (.pr (.own (.own .imm)) .imm) (.pr (.pr (.own (.pr (.own .imm) .imm)) (.pr (.own (.pr (.own .imm) .imm)) .imm)) (.pr (.pr (.own (.own .imm)) (.pr .imm (.pr (.own .imm) .imm))) (.pr .imm (.pr .imm (.pr .imm (.pr .imm (.pr .imm (.pr (.own (.own .imm)) .imm)))))))))))))), (66, (.own .imm))], live := [], ord := [], con := [((4, []), spec_EdNew.con N), ((5, []), impl_EdNew.con N), ((6, [.one, .one]), laws_eqEd.con N), ((7, [.one, .one]), laws_markEd.con N), ((8, [.one, .one]), laws_heldEd.con N)], loops := [], joins := [] }
theorem laws_FnExactEdNew.cons (N : Nat) : ConsOk Try.prog (laws_FnExactEdNew.cfg N).con := (consOk_cons (hb4) (spec_EdNew.ok N) (spec_EdNew.det N) (consOk_cons (hb5) (impl_EdNew.ok N) (impl_EdNew.det N) (consOk_cons (hb6) (laws_eqEd.ok N) (laws_eqEd.det N) (consOk_cons (hb7) (laws_markEd.ok N) (laws_markEd.det N) (consOk_cons (hb8) (laws_heldEd.ok N) (laws_heldEd.det N) consOk_nil)))))
theorem laws_FnExactEdNew.ls (N : Nat) : LoopsOk Try.prog (laws_FnExactEdNew.cfg N) (fnBody Try.f3) := loopsL (l := []) (by kernel_rfl) trivial
theorem laws_FnExactEdNew.b (N : Nat)  : body (laws_FnExactEdNew.cfg N) N Try.f3 [] [] [(false, .imm)] [] (fun r i => some (r, i)) = bindO (laws_FnExactEdNew N) fun r => some ([⟨.bool, .imm, r⟩], []) := by
  show _ = bindF _ _
  conv => rhs; simp only [laws_FnExactEdNew, bindF_ifB, bindF_bindO, bindF_pure, bindF_none, bindF_onSum]
  kernel_rfl
theorem laws_FnExactEdNew.ok (N : Nat) : ConOk Try.prog 3 [] (laws_FnExactEdNew.con N) := by
  refine conOk_mk (g := laws_FnExactEdNew.cfg N) (N := N) (res := [(false, .imm)]) tys_ok (laws_FnExactEdNew.cons N) mixed Try.func3 (laws_FnExactEdNew.ls N) rfl rfl ?_
  intro ds R k y h
  cases ds with
  | cons _ _ => exact none_some h
  | nil =>
  have h0 : (bindO (laws_FnExactEdNew N) fun r => k [⟨.bool, .imm, r⟩] []) = some y := h
  clear h
  exact con_fin (laws_FnExactEdNew.b N) h0
theorem laws_FnExactEdNew.det (N : Nat) : ConDet (laws_FnExactEdNew.con N) := by
  intro ds R k y h
  cases ds with
  | cons _ _ => exact none_some h
  | nil =>
  have h0 : (bindO (laws_FnExactEdNew N) fun r => k [⟨.bool, .imm, r⟩] []) = some y := h
  clear h
  obtain ⟨r, e, h⟩ := bindO_some h0
  refine ⟨_, _, h, fun k' => ?_⟩
  show (bindO (laws_FnExactEdNew N) fun r => k' [⟨.bool, .imm, r⟩] []) = _
  skip
  rw [e]
  rfl
end Go.AE.F
