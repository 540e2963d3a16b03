/- The printed functions are what the program comes to: contracts. -/
import Derived.Test.YtbbkaakbbpoekaaF5
import Derived.Test.YtbbkaakbbpoekaaXEdNewT
namespace Go.AE.F
open Go.AE Go.Proofs
set_option maxRecDepth 100000
noncomputable def spec_EdNew.con (N : Nat) : Con := { modes := [], ptrs := [false], fn := fun ds k => match ds with | [] => bindO (spec_EdNew N) fun r => k [⟨(.pair (.sl 57 (.pair (.int .i64) (.pair .str (.pair .str .unit)))) (.pair (.sl 60 (.pair .str (.pair .str .unit))) (.pair (.sl 25 (.sl 2 (.int .i64))) (.pair (.pair (.sl 2 (.int .i64)) (.pair (.int .i64) (.pair (.int .i64) .unit))) (.pair (.pair (.sl 25 (.sl 2 (.int .i64))) (.pair (.int .i64) .unit)) (.pair (.pair (.sl 27 (.pair (.sl 2 (.int .i64)) (.pair (.int .i64) (.pair (.int .i64) .unit)))) (.pair (.sl 27 (.pair (.sl 2 (.int .i64)) (.pair (.int .i64) (.pair (.int .i64) .unit)))) .unit)) (.pair (.pair (.sl 25 (.sl 2 (.int .i64))) (.pair (.int .i64) (.pair (.sl 2 (.int .i64)) .unit))) (.pair (.int .i64) (.pair .str (.pair (.int .i64) (.pair (.int .i64) (.pair (.int .i64) (.pair (.sl 25 (.sl 2 (.int .i64))) .unit))))))))))))), (.pr (.own .imm) (.pr (.own .imm) (.pr (.own (.own .imm)) (.pr (.pr (.own .imm) .imm) (.pr (.pr (.own (.own .imm)) .imm) (.pr (.pr (.own (.pr (.own .imm) .imm)) (.pr (.own (.pr (.own .imm) .imm)) .imm)) (.pr (.pr (.own (.own .imm)) (.pr .imm (.pr (.own .imm) .imm))) (.pr .imm (.pr .imm (.pr .imm (.pr .imm (.pr .imm (.pr (.own (.own .imm)) .imm))))))))))))), r⟩] [] | _ => none }
noncomputable def spec_EdNew.cfg (N : Nat) : Cfg := { ty := tys, keep := [], flt := [], elm := [(22, (.own .imm)), (23, (.own .imm)), (24, (.own (.own .imm))), (25, (.own .imm)), (26, (.pr (.own .imm) .imm)), (27, (.pr (.own .imm) .imm)), (28, (.pr (.own (.own .imm)) .imm)), (29, (.pr (.own (.own .imm)) .imm)), (30, (.own (.pr (.own .imm) .imm))), (31, (.pr (.own (.pr (.own .imm) .imm)) (.pr (.own (.pr (.own .imm) .imm)) .imm))), (32, (.pr (.own (.pr (.own .imm) .imm)) (.pr (.own (.pr (.own .imm) .imm)) .imm))), (33, (.pr (.own (.own .imm)) (.pr .imm (.pr (.own .imm) .imm)))), (34, (.pr (.own (.own .imm)) (.pr .imm (.pr (.own .imm) .imm)))), (35, (.pr (.own .imm) (.pr (.own .imm) (.pr (.own (.own .imm)) (.pr (.pr (.own .imm) .imm) (.pr (.pr (.own (.own .imm)) .imm) (.pr (.pr (.own (.pr (.own .imm) .imm)) (.pr (.own (.pr (.own .imm) .imm)) .imm)) (.pr (.pr (.own (.own .imm)) (.pr .imm (.pr (.own .imm) .imm))) (.pr .imm (.pr .imm (.pr .imm (.pr .imm (.pr .imm (.pr (.own (.own .imm)) .imm)))))))))))))), (36, (.pr (.own .imm) (.pr (.own .imm) (.pr (.own (.own .imm)) (.pr (.pr (.own .imm) .imm) (.pr (.pr (.own (.own .imm)) .imm) (.pr (.pr (.own (.pr (.own .imm) .imm)) (.pr (.own (.pr (.own .imm) .imm)) .imm)) (.pr (.pr (.own (.own .imm)) (.pr .imm (.pr (.own .imm) .imm))) (.pr .imm (.pr .imm (.pr .imm (.pr .imm (.pr .imm (.pr (.own (.own .imm)) .imm)))))))))))))), (66, (.own .imm))], live := [], ord := [], con := [], loops := [], joins := [] }
theorem spec_EdNew.cons (N : Nat) : ConsOk Try.prog (spec_EdNew.cfg N).con := consOk_nil
theorem spec_EdNew.ls (N : Nat) : LoopsOk Try.prog (spec_EdNew.cfg N) (fnBody Try.f4) := loopsL (l := []) (by kernel_rfl) trivial
theorem spec_EdNew.b (N : Nat)  : body (spec_EdNew.cfg N) N Try.f4 [] [] [(false, (.pr (.own .imm) (.pr (.own .imm) (.pr (.own (.own .imm)) (.pr (.pr (.own .imm) .imm) (.pr (.pr (.own (.own .imm)) .imm) (.pr (.pr (.own (.pr (.own .imm) .imm)) (.pr (.own (.pr (.own .imm) .imm)) .imm)) (.pr (.pr (.own (.own .imm)) (.pr .imm (.pr (.own .imm) .imm))) (.pr .imm (.pr .imm (.pr .imm (.pr .imm (.pr .imm (.pr (.own (.own .imm)) .imm))))))))))))))] [] (fun r i => some (r, i)) = bindO (spec_EdNew N) fun r => some ([⟨(.pair (.sl 57 (.pair (.int .i64) (.pair .str (.pair .str .unit)))) (.pair (.sl 60 (.pair .str (.pair .str .unit))) (.pair (.sl 25 (.sl 2 (.int .i64))) (.pair (.pair (.sl 2 (.int .i64)) (.pair (.int .i64) (.pair (.int .i64) .unit))) (.pair (.pair (.sl 25 (.sl 2 (.int .i64))) (.pair (.int .i64) .unit)) (.pair (.pair (.sl 27 (.pair (.sl 2 (.int .i64)) (.pair (.int .i64) (.pair (.int .i64) .unit)))) (.pair (.sl 27 (.pair (.sl 2 (.int .i64)) (.pair (.int .i64) (.pair (.int .i64) .unit)))) .unit)) (.pair (.pair (.sl 25 (.sl 2 (.int .i64))) (.pair (.int .i64) (.pair (.sl 2 (.int .i64)) .unit))) (.pair (.int .i64) (.pair .str (.pair (.int .i64) (.pair (.int .i64) (.pair (.int .i64) (.pair (.sl 25 (.sl 2 (.int .i64))) .unit))))))))))))), (.pr (.own .imm) (.pr (.own .imm) (.pr (.own (.own .imm)) (.pr (.pr (.own .imm) .imm) (.pr (.pr (.own (.own .imm)) .imm) (.pr (.pr (.own (.pr (.own .imm) .imm)) (.pr (.own (.pr (.own .imm) .imm)) .imm)) (.pr (.pr (.own (.own .imm)) (.pr .imm (.pr (.own .imm) .imm))) (.pr .imm (.pr .imm (.pr .imm (.pr .imm (.pr .imm (.pr (.own (.own .imm)) .imm))))))))))))), r⟩], []) := by
  show _ = bindF _ _
  conv => rhs; simp only [spec_EdNew, bindF_ifB, bindF_bindO, bindF_pure, bindF_none, bindF_onSum]
  kernel_rfl
theorem spec_EdNew.ok (N : Nat) : ConOk Try.prog 4 [] (spec_EdNew.con N) := by
  refine conOk_mk (g := spec_EdNew.cfg N) (N := N) (res := [(false, (.pr (.own .imm) (.pr (.own .imm) (.pr (.own (.own .imm)) (.pr (.pr (.own .imm) .imm) (.pr (.pr (.own (.own .imm)) .imm) (.pr (.pr (.own (.pr (.own .imm) .imm)) (.pr (.own (.pr (.own .imm) .imm)) .imm)) (.pr (.pr (.own (.own .imm)) (.pr .imm (.pr (.own .imm) .imm))) (.pr .imm (.pr .imm (.pr .imm (.pr .imm (.pr .imm (.pr (.own (.own .imm)) .imm))))))))))))))]) tys_ok (spec_EdNew.cons N) mixed Try.func4 (spec_EdNew.ls N) rfl rfl ?_
  intro ds R k y h
  cases ds with
  | cons _ _ => exact none_some h
  | nil =>
  have h0 : (bindO (spec_EdNew N) fun r => k [⟨(.pair (.sl 57 (.pair (.int .i64) (.pair .str (.pair .str .unit)))) (.pair (.sl 60 (.pair .str (.pair .str .unit))) (.pair (.sl 25 (.sl 2 (.int .i64))) (.pair (.pair (.sl 2 (.int .i64)) (.pair (.int .i64) (.pair (.int .i64) .unit))) (.pair (.pair (.sl 25 (.sl 2 (.int .i64))) (.pair (.int .i64) .unit)) (.pair (.pair (.sl 27 (.pair (.sl 2 (.int .i64)) (.pair (.int .i64) (.pair (.int .i64) .unit)))) (.pair (.sl 27 (.pair (.sl 2 (.int .i64)) (.pair (.int .i64) (.pair (.int .i64) .unit)))) .unit)) (.pair (.pair (.sl 25 (.sl 2 (.int .i64))) (.pair (.int .i64) (.pair (.sl 2 (.int .i64)) .unit))) (.pair (.int .i64) (.pair .str (.pair (.int .i64) (.pair (.int .i64) (.pair (.int .i64) (.pair (.sl 25 (.sl 2 (.int .i64))) .unit))))))))))))), (.pr (.own .imm) (.pr (.own .imm) (.pr (.own (.own .imm)) (.pr (.pr (.own .imm) .imm) (.pr (.pr (.own (.own .imm)) .imm) (.pr (.pr (.own (.pr (.own .imm) .imm)) (.pr (.own (.pr (.own .imm) .imm)) .imm)) (.pr (.pr (.own (.own .imm)) (.pr .imm (.pr (.own .imm) .imm))) (.pr .imm (.pr .imm (.pr .imm (.pr .imm (.pr .imm (.pr (.own (.own .imm)) .imm))))))))))))), r⟩] []) = some y := h
  clear h
  exact con_fin (spec_EdNew.b N) h0
theorem spec_EdNew.det (N : Nat) : ConDet (spec_EdNew.con N) := by
  intro ds R k y h
  cases ds with
  | cons _ _ => exact none_some h
  | nil =>
  have h0 : (bindO (spec_EdNew N) fun r => k [⟨(.pair (.sl 57 (.pair (.int .i64) (.pair .str (.pair .str .unit)))) (.pair (.sl 60 (.pair .str (.pair .str .unit))) (.pair (.sl 25 (.sl 2 (.int .i64))) (.pair (.pair (.sl 2 (.int .i64)) (.pair (.int .i64) (.pair (.int .i64) .unit))) (.pair (.pair (.sl 25 (.sl 2 (.int .i64))) (.pair (.int .i64) .unit)) (.pair (.pair (.sl 27 (.pair (.sl 2 (.int .i64)) (.pair (.int .i64) (.pair (.int .i64) .unit)))) (.pair (.sl 27 (.pair (.sl 2 (.int .i64)) (.pair (.int .i64) (.pair (.int .i64) .unit)))) .unit)) (.pair (.pair (.sl 25 (.sl 2 (.int .i64))) (.pair (.int .i64) (.pair (.sl 2 (.int .i64)) .unit))) (.pair (.int .i64) (.pair .str (.pair (.int .i64) (.pair (.int .i64) (.pair (.int .i64) (.pair (.sl 25 (.sl 2 (.int .i64))) .unit))))))))))))), (.pr (.own .imm) (.pr (.own .imm) (.pr (.own (.own .imm)) (.pr (.pr (.own .imm) .imm) (.pr (.pr (.own (.own .imm)) .imm) (.pr (.pr (.own (.pr (.own .imm) .imm)) (.pr (.own (.pr (.own .imm) .imm)) .imm)) (.pr (.pr (.own (.own .imm)) (.pr .imm (.pr (.own .imm) .imm))) (.pr .imm (.pr .imm (.pr .imm (.pr .imm (.pr .imm (.pr (.own (.own .imm)) .imm))))))))))))), r⟩] []) = some y := h
  clear h
  obtain ⟨r, e, h⟩ := bindO_some h0
  refine ⟨_, _, h, fun k' => ?_⟩
  show (bindO (spec_EdNew N) fun r => k' [⟨(.pair (.sl 57 (.pair (.int .i64) (.pair .str (.pair .str .unit)))) (.pair (.sl 60 (.pair .str (.pair .str .unit))) (.pair (.sl 25 (.sl 2 (.int .i64))) (.pair (.pair (.sl 2 (.int .i64)) (.pair (.int .i64) (.pair (.int .i64) .unit))) (.pair (.pair (.sl 25 (.sl 2 (.int .i64))) (.pair (.int .i64) .unit)) (.pair (.pair (.sl 27 (.pair (.sl 2 (.int .i64)) (.pair (.int .i64) (.pair (.int .i64) .unit)))) (.pair (.sl 27 (.pair (.sl 2 (.int .i64)) (.pair (.int .i64) (.pair (.int .i64) .unit)))) .unit)) (.pair (.pair (.sl 25 (.sl 2 (.int .i64))) (.pair (.int .i64) (.pair (.sl 2 (.int .i64)) .unit))) (.pair (.int .i64) (.pair .str (.pair (.int .i64) (.pair (.int .i64) (.pair (.int .i64) (.pair (.sl 25 (.sl 2 (.int .i64))) .unit))))))))))))), (.pr (.own .imm) (.pr (.own .imm) (.pr (.own (.own .imm)) (.pr (.pr (.own .imm) .imm) (.pr (.pr (.own (.own .imm)) .imm) (.pr (.pr (.own (.pr (.own .imm) .imm)) (.pr (.own (.pr (.own .imm) .imm)) .imm)) (.pr (.pr (.own (.own .imm)) (.pr .imm (.pr (.own .imm) .imm))) (.pr .imm (.pr .imm (.pr .imm (.pr .imm (.pr .imm (.pr (.own (.own .imm)) .imm))))))))))))), r⟩] []) = _
  skip
  rw [e]
  rfl
noncomputable def impl_EdNew.con (N : Nat) : Con := { modes := [], ptrs := [false], fn := fun ds k => match ds with | [] => bindO (impl_EdNew N) fun r => k [⟨(.pair (.sl 57 (.pair (.int .i64) (.pair .str (.pair .str .unit)))) (.pair (.sl 60 (.pair .str (.pair .str .unit))) (.pair (.sl 25 (.sl 2 (.int .i64))) (.pair (.pair (.sl 2 (.int .i64)) (.pair (.int .i64) (.pair (.int .i64) .unit))) (.pair (.pair (.sl 25 (.sl 2 (.int .i64))) (.pair (.int .i64) .unit)) (.pair (.pair (.sl 27 (.pair (.sl 2 (.int .i64)) (.pair (.int .i64) (.pair (.int .i64) .unit)))) (.pair (.sl 27 (.pair (.sl 2 (.int .i64)) (.pair (.int .i64) (.pair (.int .i64) .unit)))) .unit)) (.pair (.pair (.sl 25 (.sl 2 (.int .i64))) (.pair (.int .i64) (.pair (.sl 2 (.int .i64)) .unit))) (.pair (.int .i64) (.pair .str (.pair (.int .i64) (.pair (.int .i64) (.pair (.int .i64) (.pair (.sl 25 (.sl 2 (.int .i64))) .unit))))))))))))), (.pr (.own .imm) (.pr (.own .imm) (.pr (.own (.own .imm)) (.pr (.pr (.own .imm) .imm) (.pr (.pr (.own (.own .imm)) .imm) (.pr (.pr (.own (.pr (.own .imm) .imm)) (.pr (.own (.pr (.own .imm) .imm)) .imm)) (.pr (.pr (.own (.own .imm)) (.pr .imm (.pr (.own .imm) .imm))) (.pr .imm (.pr .imm (.pr .imm (.pr .imm (.pr .imm (.pr (.own (.own .imm)) .imm))))))))))))), r⟩] [] | _ => none }
noncomputable def impl_EdNew.cfg (N : Nat) : Cfg := { ty := tys, keep := [], flt := [], elm := [(22, (.own .imm)), (23, (.own .imm)), (24, (.own (.own .imm))), (25, (.own .imm)), (26, (.pr (.own .imm) .imm)), (27, (.pr (.own .imm) .imm)), (28, (.pr (.own (.own .imm)) .imm)), (29, (.pr (.own (.own .imm)) .imm)), (30, (.own (.pr (.own .imm) .imm))), (31, (.pr (.own (.pr (.own .imm) .imm)) (.pr (.own (.pr (.own .imm) .imm)) .imm))), (32, (.pr (.own (.pr (.own .imm) .imm)) (.pr (.own (.pr (.own .imm) .imm)) .imm))), (33, (.pr (.own (.own .imm)) (.pr .imm (.pr (.own .imm) .imm)))), (34, (.pr (.own (.own .imm)) (.pr .imm (.pr (.own .imm) .imm)))), (35, (.pr (.own .imm) (.pr (.own .imm) (.pr (.own (.own .imm)) (.pr (.pr (.own .imm) .imm) (.pr (.pr (.own (.own .imm)) .imm) (.pr (.pr (.own (.pr (.own .imm) .imm)) (.pr (.own (.pr (.own .imm) .imm)) .imm)) (.pr (.pr (.own (.own .imm)) (.pr .imm (.pr (.own .imm) .imm))) (.pr .imm (.pr .imm (.pr .imm (.pr .imm (.pr .imm (.pr (.own (.own .imm)) .imm)))))))))))))), (36, (.pr (.own .imm) (.pr (.own .imm) (.pr (.own (.own .imm)) (.pr (.pr (.own .imm) .imm) (.pr (.pr (.own (.own .imm)) .imm) (.pr (.pr (.own (.pr (.own .imm) .imm)) (.pr (.own (.pr (.own .imm) .imm)) .imm)) (.pr (.pr (.own (.own .imm)) (.pr .imm (.pr (.own .imm) .imm))) (.pr .imm (.pr .imm (.pr .imm (.pr .imm (.pr .imm (.pr (.own (.own .imm)) .imm)))))))))))))), (66, (.own .imm))], live := [], ord := [], con := [], loops := [], joins := [] }
theorem impl_EdNew.cons (N : Nat) : ConsOk Try.prog (impl_EdNew.cfg N).con := consOk_nil
theorem impl_EdNew.ls (N : Nat) : LoopsOk Try.prog (impl_EdNew.cfg N) (fnBody Try.f5) := loopsL (l := []) (by kernel_rfl) trivial
theorem impl_EdNew.b (N : Nat)  : body (impl_EdNew.cfg N) N Try.f5 [] [] [(false, (.pr (.own .imm) (.pr (.own .imm) (.pr (.own (.own .imm)) (.pr (.pr (.own .imm) .imm) (.pr (.pr (.own (.own .imm)) .imm) (.pr (.pr (.own (.pr (.own .imm) .imm)) (.pr (.own (.pr (.own .imm) .imm)) .imm)) (.pr (.pr (.own (.own .imm)) (.pr .imm (.pr (.own .imm) .imm))) (.pr .imm (.pr .imm (.pr .imm (.pr .imm (.pr .imm (.pr (.own (.own .imm)) .imm))))))))))))))] [] (fun r i => some (r, i)) = bindO (impl_EdNew N) fun r => some ([⟨(.pair (.sl 57 (.pair (.int .i64) (.pair .str (.pair .str .unit)))) (.pair (.sl 60 (.pair .str (.pair .str .unit))) (.pair (.sl 25 (.sl 2 (.int .i64))) (.pair (.pair (.sl 2 (.int .i64)) (.pair (.int .i64) (.pair (.int .i64) .unit))) (.pair (.pair (.sl 25 (.sl 2 (.int .i64))) (.pair (.int .i64) .unit)) (.pair (.pair (.sl 27 (.pair (.sl 2 (.int .i64)) (.pair (.int .i64) (.pair (.int .i64) .unit)))) (.pair (.sl 27 (.pair (.sl 2 (.int .i64)) (.pair (.int .i64) (.pair (.int .i64) .unit)))) .unit)) (.pair (.pair (.sl 25 (.sl 2 (.int .i64))) (.pair (.int .i64) (.pair (.sl 2 (.int .i64)) .unit))) (.pair (.int .i64) (.pair .str (.pair (.int .i64) (.pair (.int .i64) (.pair (.int .i64) (.pair (.sl 25 (.sl 2 (.int .i64))) .unit))))))))))))), (.pr (.own .imm) (.pr (.own .imm) (.pr (.own (.own .imm)) (.pr (.pr (.own .imm) .imm) (.pr (.pr (.own (.own .imm)) .imm) (.pr (.pr (.own (.pr (.own .imm) .imm)) (.pr (.own (.pr (.own .imm) .imm)) .imm)) (.pr (.pr (.own (.own .imm)) (.pr .imm (.pr (.own .imm) .imm))) (.pr .imm (.pr .imm (.pr .imm (.pr .imm (.pr .imm (.pr (.own (.own .imm)) .imm))))))))))))), r⟩], []) := by
  show _ = bindF _ _
  conv => rhs; simp only [impl_EdNew, bindF_ifB, bindF_bindO, bindF_pure, bindF_none, bindF_onSum]
  kernel_rfl
theorem impl_EdNew.ok (N : Nat) : ConOk Try.prog 5 [] (impl_EdNew.con N) := by
  refine conOk_mk (g := impl_EdNew.cfg N) (N := N) (res := [(false, (.pr (.own .imm) (.pr (.own .imm) (.pr (.own (.own .imm)) (.pr (.pr (.own .imm) .imm) (.pr (.pr (.own (.own .imm)) .imm) (.pr (.pr (.own (.pr (.own .imm) .imm)) (.pr (.own (.pr (.own .imm) .imm)) .imm)) (.pr (.pr (.own (.own .imm)) (.pr .imm (.pr (.own .imm) .imm))) (.pr .imm (.pr .imm (.pr .imm (.pr .imm (.pr .imm (.pr (.own (.own .imm)) .imm))))))))))))))]) tys_ok (impl_EdNew.cons N) mixed Try.func5 (impl_EdNew.ls N) rfl rfl ?_
  intro ds R k y h
  cases ds with
  | cons _ _ => exact none_some h
  | nil =>
  have h0 : (bindO (impl_EdNew N) fun r => k [⟨(.pair (.sl 57 (.pair (.int .i64) (.pair .str (.pair .str .unit)))) (.pair (.sl 60 (.pair .str (.pair .str .unit))) (.pair (.sl 25 (.sl 2 (.int .i64))) (.pair (.pair (.sl 2 (.int .i64)) (.pair (.int .i64) (.pair (.int .i64) .unit))) (.pair (.pair (.sl 25 (.sl 2 (.int .i64))) (.pair (.int .i64) .unit)) (.pair (.pair (.sl 27 (.pair (.sl 2 (.int .i64)) (.pair (.int .i64) (.pair (.int .i64) .unit)))) (.pair (.sl 27 (.pair (.sl 2 (.int .i64)) (.pair (.int .i64) (.pair (.int .i64) .unit)))) .unit)) (.pair (.pair (.sl 25 (.sl 2 (.int .i64))) (.pair (.int .i64) (.pair (.sl 2 (.int .i64)) .unit))) (.pair (.int .i64) (.pair .str (.pair (.int .i64) (.pair (.int .i64) (.pair (.int .i64) (.pair (.sl 25 (.sl 2 (.int .i64))) .unit))))))))))))), (.pr (.own .imm) (.pr (.own .imm) (.pr (.own (.own .imm)) (.pr (.pr (.own .imm) .imm) (.pr (.pr (.own (.own .imm)) .imm) (.pr (.pr (.own (.pr (.own .imm) .imm)) (.pr (.own (.pr (.own .imm) .imm)) .imm)) (.pr (.pr (.own (.own .imm)) (.pr .imm (.pr (.own .imm) .imm))) (.pr .imm (.pr .imm (.pr .imm (.pr .imm (.pr .imm (.pr (.own (.own .imm)) .imm))))))))))))), r⟩] []) = some y := h
  clear h
  exact con_fin (impl_EdNew.b N) h0
theorem impl_EdNew.det (N : Nat) : ConDet (impl_EdNew.con N) := by
  intro ds R k y h
  cases ds with
  | cons _ _ => exact none_some h
  | nil =>
  have h0 : (bindO (impl_EdNew N) fun r => k [⟨(.pair (.sl 57 (.pair (.int .i64) (.pair .str (.pair .str .unit)))) (.pair (.sl 60 (.pair .str (.pair .str .unit))) (.pair (.sl 25 (.sl 2 (.int .i64))) (.pair (.pair (.sl 2 (.int .i64)) (.pair (.int .i64) (.pair (.int .i64) .unit))) (.pair (.pair (.sl 25 (.sl 2 (.int .i64))) (.pair (.int .i64) .unit)) (.pair (.pair (.sl 27 (.pair (.sl 2 (.int .i64)) (.pair (.int .i64) (.pair (.int .i64) .unit)))) (.pair (.sl 27 (.pair (.sl 2 (.int .i64)) (.pair (.int .i64) (.pair (.int .i64) .unit)))) .unit)) (.pair (.pair (.sl 25 (.sl 2 (.int .i64))) (.pair (.int .i64) (.pair (.sl 2 (.int .i64)) .unit))) (.pair (.int .i64) (.pair .str (.pair (.int .i64) (.pair (.int .i64) (.pair (.int .i64) (.pair (.sl 25 (.sl 2 (.int .i64))) .unit))))))))))))), (.pr (.own .imm) (.pr (.own .imm) (.pr (.own (.own .imm)) (.pr (.pr (.own .imm) .imm) (.pr (.pr (.own (.own .imm)) .imm) (.pr (.pr (.own (.pr (.own .imm) .imm)) (.pr (.own (.pr (.own .imm) .imm)) .imm)) (.pr (.pr (.own (.own .imm)) (.pr .imm (.pr (.own .imm) .imm))) (.pr .imm (.pr .imm (.pr .imm (.pr .imm (.pr .imm (.pr (.own (.own .imm)) .imm))))))))))))), r⟩] []) = some y := h
  clear h
  obtain ⟨r, e, h⟩ := bindO_some h0
  refine ⟨_, _, h, fun k' => ?_⟩
  show (bindO (impl_EdNew N) fun r => k' [⟨(.pair (.sl 57 (.pair (.int .i64) (.pair .str (.pair .str .unit)))) (.pair (.sl 60 (.pair .str (.pair .str .unit))) (.pair (.sl 25 (.sl 2 (.int .i64))) (.pair (.pair (.sl 2 (.int .i64)) (.pair (.int .i64) (.pair (.int .i64) .unit))) (.pair (.pair (.sl 25 (.sl 2 (.int .i64))) (.pair (.int .i64) .unit)) (.pair (.pair (.sl 27 (.pair (.sl 2 (.int .i64)) (.pair (.int .i64) (.pair (.int .i64) .unit)))) (.pair (.sl 27 (.pair (.sl 2 (.int .i64)) (.pair (.int .i64) (.pair (.int .i64) .unit)))) .unit)) (.pair (.pair (.sl 25 (.sl 2 (.int .i64))) (.pair (.int .i64) (.pair (.sl 2 (.int .i64)) .unit))) (.pair (.int .i64) (.pair .str (.pair (.int .i64) (.pair (.int .i64) (.pair (.int .i64) (.pair (.sl 25 (.sl 2 (.int .i64))) .unit))))))))))))), (.pr (.own .imm) (.pr (.own .imm) (.pr (.own (.own .imm)) (.pr (.pr (.own .imm) .imm) (.pr (.pr (.own (.own .imm)) .imm) (.pr (.pr (.own (.pr (.own .imm) .imm)) (.pr (.own (.pr (.own .imm) .imm)) .imm)) (.pr (.pr (.own (.own .imm)) (.pr .imm (.pr (.own .imm) .imm))) (.pr .imm (.pr .imm (.pr .imm (.pr .imm (.pr .imm (.pr (.own (.own .imm)) .imm))))))))))))), r⟩] []) = _
  skip
  rw [e]
  rfl
noncomputable def laws_eqKey.con (N : Nat) : Con := { modes := [.v, .v], ptrs := [false], fn := fun ds k => match ds with | [d0, d1] => castDm (.pair (.int .i64) (.pair .str (.pair .str .unit))) .imm d0 fun x0 => castDm (.pair (.int .i64) (.pair .str (.pair .str .unit))) .imm d1 fun x1 => bindO (laws_eqKey N x0 x1) fun r => k [⟨.bool, .imm, r⟩] [] | _ => none }
noncomputable def laws_eqKey.cfg (N : Nat) : Cfg := { ty := tys, keep := [], flt := [], elm := [(22, (.own .imm)), (23, (.own .imm)), (24, (.own (.own .imm))), (25, (.own .imm)), (26, (.pr (.own .imm) .imm)), (27, (.pr (.own .imm) .imm)), (28, (.pr (.own (.own .imm)) .imm)), (29, (.pr (.own (.own .imm)) .imm)), (30, (.own (.pr (.own .imm) .imm))), (31, (.pr (.own (.pr (.own .imm) .imm)) (.pr (.own (.pr (.own .imm) .imm)) .imm))), (32, (.pr (.own (.pr (.own .imm) .imm)) (.pr (.own (.pr (.own .imm) .imm)) .imm))), (33, (.pr (.own (.own .imm)) (.pr .imm (.pr (.own .imm) .imm)))), (34, (.pr (.own (.own .imm)) (.pr .imm (.pr (.own .imm) .imm)))), (35, (.pr (.own .imm) (.pr (.own .imm) (.pr (.own (.own .imm)) (.pr (.pr (.own .imm) .imm) (.pr (.pr (.own (.own .imm)) .imm) (.pr (.pr (.own (.pr (.own .imm) .imm)) (.pr (.own (.pr (.own .imm) .imm)) .imm)) (.pr (.pr (.own (.own .imm)) (.pr .imm (.pr (.own .imm) .imm))) (.pr .imm (.pr .imm (.pr .imm (.pr .imm (.pr .imm (.pr (.own (.own .imm)) .imm)))))))))))))), (36, (.pr (.own .imm) (.pr (.own .imm) (.pr (.own (.own .imm)) (.pr (.pr (.own .imm) .imm) (.pr (.pr (.own (.own .imm)) .imm) (.pr (.pr (.own (.pr (.own .imm) .imm)) (.pr (.own (.pr (.own .imm) .imm)) .imm)) (.pr (.pr (.own (.own .imm)) (.pr .imm (.pr (.own .imm) .imm))) (.pr .imm (.pr .imm (.pr .imm (.pr .imm (.pr .imm (.pr (.own (.own .imm)) .imm)))))))))))))), (66, (.own .imm))], live := [], ord := [], con := [], loops := [], joins := [] }
theorem laws_eqKey.cons (N : Nat) : ConsOk Try.prog (laws_eqKey.cfg N).con := consOk_nil
theorem laws_eqKey.ls (N : Nat) : LoopsOk Try.prog (laws_eqKey.cfg N) (fnBody Try.f30) := loopsL (l := []) (by kernel_rfl) trivial
theorem laws_eqKey.b (N : Nat) (x0 : den (.pair (.int .i64) (.pair .str (.pair .str .unit)))) (x1 : den (.pair (.int .i64) (.pair .str (.pair .str .unit)))) : body (laws_eqKey.cfg N) N Try.f30 [.one, .one] [.v, .v] [(false, .imm)] [⟨(.pair (.int .i64) (.pair .str (.pair .str .unit))), .imm, x0⟩, ⟨(.pair (.int .i64) (.pair .str (.pair .str .unit))), .imm, x1⟩] (fun r i => some (r, i)) = bindO (laws_eqKey N x0 x1) fun r => some ([⟨.bool, .imm, r⟩], []) := by
  show _ = bindF _ _
  conv => rhs; simp only [laws_eqKey, bindF_ifB, bindF_bindO, bindF_pure, bindF_none, bindF_onSum]
  kernel_rfl
theorem laws_eqKey.ok (N : Nat) : ConOk Try.prog 30 [.one, .one] (laws_eqKey.con N) := by
  refine conOk_mk (g := laws_eqKey.cfg N) (N := N) (res := [(false, .imm)]) tys_ok (laws_eqKey.cons N) mixed Try.func30 (laws_eqKey.ls N) rfl rfl ?_
  intro ds R k y h
  cases ds with
  | nil => exact none_some h
  | cons d0 ds =>
  cases ds with
  | nil => exact none_some h
  | cons d1 ds =>
  cases ds with
  | cons _ _ => exact none_some h
  | nil =>
  have h0 : (castDm (.pair (.int .i64) (.pair .str (.pair .str .unit))) .imm d0 fun x0 => castDm (.pair (.int .i64) (.pair .str (.pair .str .unit))) .imm d1 fun x1 => bindO (laws_eqKey N x0 x1) fun r => k [⟨.bool, .imm, r⟩] []) = some y := h
  clear h
  obtain ⟨x0, rfl, h1⟩ := castDm_eq h0
  obtain ⟨x1, rfl, h2⟩ := castDm_eq h1
  exact con_fin (laws_eqKey.b N x0 x1) h2
theorem laws_eqKey.det (N : Nat) : ConDet (laws_eqKey.con N) := by
  intro ds R k y h
  cases ds with
  | nil => exact none_some h
  | cons d0 ds =>
  cases ds with
  | nil => exact none_some h
  | cons d1 ds =>
  cases ds with
  | cons _ _ => exact none_some h
  | nil =>
  have h0 : (castDm (.pair (.int .i64) (.pair .str (.pair .str .unit))) .imm d0 fun x0 => castDm (.pair (.int .i64) (.pair .str (.pair .str .unit))) .imm d1 fun x1 => bindO (laws_eqKey N x0 x1) fun r => k [⟨.bool, .imm, r⟩] []) = some y := h
  clear h
  obtain ⟨x0, rfl, h1⟩ := castDm_eq h0
  obtain ⟨x1, rfl, h2⟩ := castDm_eq h1
  obtain ⟨r, e, h⟩ := bindO_some h2
  refine ⟨_, _, h, fun k' => ?_⟩
  show (castDm (.pair (.int .i64) (.pair .str (.pair .str .unit))) .imm (⟨(.pair (.int .i64) (.pair .str (.pair .str .unit))), .imm, x0⟩ : Dy) fun x0 => castDm (.pair (.int .i64) (.pair .str (.pair .str .unit))) .imm (⟨(.pair (.int .i64) (.pair .str (.pair .str .unit))), .imm, x1⟩ : Dy) fun x1 => bindO (laws_eqKey N x0 x1) fun r => k' [⟨.bool, .imm, r⟩] []) = _
  simp only [castDm_self]
  rw [e]
  rfl
def laws_eqKeyS.sk4 : Skel := ⟨[.pv (.sl 57 (.pair (.int .i64) (.pair .str (.pair .str .unit)))), .pv (.sl 57 (.pair (.int .i64) (.pair .str (.pair .str .unit)))), .dead, .dead, .dead, .pv (.int .i64), .dead, .dead, .dead, .dead, .dead, .dead, .dead, .dead, .dead, .dead, .dead, .dead, .dead, .dead, .dead, .dead, .dead, .dead, .dead, .dead, .dead], []⟩
def laws_eqKeyS.xs4 : List XS := [⟨.exit 0, [], ⟨[.dead, .dead, .dead, .dead, .dead, .dead, .dead, .dead, .dead, .dead, .dead, .dead, .dead, .dead, .dead, .dead, .dead, .dead, .dead, .dead, .dead, .dead, .dead, .dead, .dead, .dead, .dead], []⟩⟩, ⟨.ret, [4], ⟨[.dead, .dead, .dead, .dead, .pv .bool, .dead, .dead, .dead, .dead, .dead, .dead, .dead, .dead, .dead, .dead, .dead, .dead, .dead, .dead, .dead, .dead, .dead, .dead, .dead, .dead, .dead, .dead], []⟩⟩]
noncomputable def laws_eqKeyS.con (N : Nat) : Con := { modes := [.v, .v], ptrs := [false], fn := fun ds k => match ds with | [d0, d1] => castDm (.sl 57 (.pair (.int .i64) (.pair .str (.pair .str .unit)))) .imm d0 fun x0 => castDm (.sl 57 (.pair (.int .i64) (.pair .str (.pair .str .unit)))) .imm d1 fun x1 => bindO (laws_eqKeyS N x0 x1) fun r => k [⟨.bool, .imm, r⟩] [] | _ => none }
noncomputable def laws_eqKeyS.cfg (N : Nat) : Cfg := { ty := tys, keep := [25], flt := [], elm := [(22, (.own .imm)), (23, (.own .imm)), (24, (.own (.own .imm))), (25, (.own .imm)), (26, (.pr (.own .imm) .imm)), (27, (.pr (.own .imm) .imm)), (28, (.pr (.own (.own .imm)) .imm)), (29, (.pr (.own (.own .imm)) .imm)), (30, (.own (.pr (.own .imm) .imm))), (31, (.pr (.own (.pr (.own .imm) .imm)) (.pr (.own (.pr (.own .imm) .imm)) .imm))), (32, (.pr (.own (.pr (.own .imm) .imm)) (.pr (.own (.pr (.own .imm) .imm)) .imm))), (33, (.pr (.own (.own .imm)) (.pr .imm (.pr (.own .imm) .imm)))), (34, (.pr (.own (.own .imm)) (.pr .imm (.pr (.own .imm) .imm)))), (35, (.pr (.own .imm) (.pr (.own .imm) (.pr (.own (.own .imm)) (.pr (.pr (.own .imm) .imm) (.pr (.pr (.own (.own .imm)) .imm) (.pr (.pr (.own (.pr (.own .imm) .imm)) (.pr (.own (.pr (.own .imm) .imm)) .imm)) (.pr (.pr (.own (.own .imm)) (.pr .imm (.pr (.own .imm) .imm))) (.pr .imm (.pr .imm (.pr .imm (.pr .imm (.pr .imm (.pr (.own (.own .imm)) .imm)))))))))))))), (36, (.pr (.own .imm) (.pr (.own .imm) (.pr (.own (.own .imm)) (.pr (.pr (.own .imm) .imm) (.pr (.pr (.own (.own .imm)) .imm) (.pr (.pr (.own (.pr (.own .imm) .imm)) (.pr (.own (.pr (.own .imm) .imm)) .imm)) (.pr (.pr (.own (.own .imm)) (.pr .imm (.pr (.own .imm) .imm))) (.pr .imm (.pr .imm (.pr .imm (.pr .imm (.pr .imm (.pr (.own (.own .imm)) .imm)))))))))))))), (66, (.own .imm))], live := [(4, [0, 1, 5])], ord := [(6, [0, 1, 2, 3, 4, 5, 6, 7, 8, 9])], con := [((30, [.one, .one]), laws_eqKey.con N)], loops := [(4, loopCon N laws_eqKeyS.sk4 laws_eqKeyS.xs4 (fun {R} => laws_eqKeyS.l4 (R := R) N))], joins := [] }
theorem laws_eqKeyS.cons (N : Nat) : ConsOk Try.prog (laws_eqKeyS.cfg N).con := (consOk_cons (hb30) (laws_eqKey.ok N) (laws_eqKey.det N) consOk_nil)
theorem laws_eqKeyS.h4 {R : Type} (N : Nat) (d : laws_eqKeyS.sk4.D) (kn : laws_eqKeyS.sk4.D → Option R) (kx : XD laws_eqKeyS.xs4 → Option R) : roundK (laws_eqKeyS.cfg N) N (nthLoop (fnBody Try.f9) 0) laws_eqKeyS.sk4 laws_eqKeyS.xs4 d kn kx = laws_eqKeyS.l4 N d kn kx := by kernel_rfl
theorem laws_eqKeyS.i4 (N : Nat) : LoopsOk Try.prog (laws_eqKeyS.cfg N) (nthLoop (fnBody Try.f9) 0) := loopsL (l := []) (by kernel_rfl) trivial
theorem laws_eqKeyS.o4 (N : Nat) : LoopOk Try.prog (nthLoop (fnBody Try.f9) 0) (loopCon N laws_eqKeyS.sk4 laws_eqKeyS.xs4 (fun {R} => laws_eqKeyS.l4 (R := R) N)) := loop_ok (g := laws_eqKeyS.cfg N) tys_ok (laws_eqKeyS.cons N) mixed (laws_eqKeyS.i4 N) (fun d kn kx => laws_eqKeyS.h4 N d kn kx)
theorem laws_eqKeyS.ls (N : Nat) : LoopsOk Try.prog (laws_eqKeyS.cfg N) (fnBody Try.f9) := loopsL (l := [nthLoop (fnBody Try.f9) 0]) (by kernel_rfl) ⟨loopOne (L0 := loopCon N laws_eqKeyS.sk4 laws_eqKeyS.xs4 (fun {R} => laws_eqKeyS.l4 (R := R) N)) (id := 4) (by kernel_rfl) (by kernel_rfl) (laws_eqKeyS.o4 N), trivial⟩
theorem laws_eqKeyS.q4 {R R' : Type} {N n : Nat} {d} {k} {g : R → Option R'} : bindF (loopP (laws_eqKeyS.l4 N) n d k) g = loopP (laws_eqKeyS.l4 N) n d fun e => bindF (k e) g := bindF_loopP (fun d kn kx => by simp only [laws_eqKeyS.l4, bindF_ifB, bindF_bindO, bindF_pure, bindF_none, bindF_onSum]) n d k
theorem laws_eqKeyS.b (N : Nat) (x0 : den (.sl 57 (.pair (.int .i64) (.pair .str (.pair .str .unit))))) (x1 : den (.sl 57 (.pair (.int .i64) (.pair .str (.pair .str .unit))))) : body (laws_eqKeyS.cfg N) N Try.f9 [.one, .one] [.v, .v] [(false, .imm)] [⟨(.sl 57 (.pair (.int .i64) (.pair .str (.pair .str .unit)))), .imm, x0⟩, ⟨(.sl 57 (.pair (.int .i64) (.pair .str (.pair .str .unit)))), .imm, x1⟩] (fun r i => some (r, i)) = bindO (laws_eqKeyS N x0 x1) fun r => some ([⟨.bool, .imm, r⟩], []) := by
  show _ = bindF _ _
  conv => rhs; simp only [laws_eqKeyS, bindF_ifB, bindF_bindO, bindF_pure, bindF_none, bindF_onSum, laws_eqKeyS.q4]
  kernel_rfl
theorem laws_eqKeyS.ok (N : Nat) : ConOk Try.prog 9 [.one, .one] (laws_eqKeyS.con N) := by
  refine conOk_mk (g := laws_eqKeyS.cfg N) (N := N) (res := [(false, .imm)]) tys_ok (laws_eqKeyS.cons N) mixed Try.func9 (laws_eqKeyS.ls N) rfl rfl ?_
  intro ds R k y h
  cases ds with
  | nil => exact none_some h
  | cons d0 ds =>
  cases ds with
  | nil => exact none_some h
  | cons d1 ds =>
  cases ds with
  | cons _ _ => exact none_some h
  | nil =>
  have h0 : (castDm (.sl 57 (.pair (.int .i64) (.pair .str (.pair .str .unit)))) .imm d0 fun x0 => castDm (.sl 57 (.pair (.int .i64) (.pair .str (.pair .str .unit)))) .imm d1 fun x1 => bindO (laws_eqKeyS N x0 x1) fun r => k [⟨.bool, .imm, r⟩] []) = some y := h
  clear h
  obtain ⟨x0, rfl, h1⟩ := castDm_eq h0
  obtain ⟨x1, rfl, h2⟩ := castDm_eq h1
  exact con_fin (laws_eqKeyS.b N x0 x1) h2
theorem laws_eqKeyS.det (N : Nat) : ConDet (laws_eqKeyS.con N) := by
  intro ds R k y h
  cases ds with
  | nil => exact none_some h
  | cons d0 ds =>
  cases ds with
  | nil => exact none_some h
  | cons d1 ds =>
  cases ds with
  | cons _ _ => exact none_some h
  | nil =>
  have h0 : (castDm (.sl 57 (.pair (.int .i64) (.pair .str (.pair .str .unit)))) .imm d0 fun x0 => castDm (.sl 57 (.pair (.int .i64) (.pair .str (.pair .str .unit)))) .imm d1 fun x1 => bindO (laws_eqKeyS N x0 x1) fun r => k [⟨.bool, .imm, r⟩] []) = some y := h
  clear h
  obtain ⟨x0, rfl, h1⟩ := castDm_eq h0
  obtain ⟨x1, rfl, h2⟩ := castDm_eq h1
  obtain ⟨r, e, h⟩ := bindO_some h2
  refine ⟨_, _, h, fun k' => ?_⟩
  show (castDm (.sl 57 (.pair (.int .i64) (.pair .str (.pair .str .unit)))) .imm (⟨(.sl 57 (.pair (.int .i64) (.pair .str (.pair .str .unit)))), .imm, x0⟩ : Dy) fun x0 => castDm (.sl 57 (.pair (.int .i64) (.pair .str (.pair .str .unit)))) .imm (⟨(.sl 57 (.pair (.int .i64) (.pair .str (.pair .str .unit)))), .imm, x1⟩ : Dy) fun x1 => bindO (laws_eqKeyS N x0 x1) fun r => k' [⟨.bool, .imm, r⟩] []) = _
  simp only [castDm_self]
  rw [e]
  rfl
noncomputable def laws_eqWidget.con (N : Nat) : Con := { modes := [.v, .v], ptrs := [false], fn := fun ds k => match ds with | [d0, d1] => castDm (.pair .str (.pair .str .unit)) .imm d0 fun x0 => castDm (.pair .str (.pair .str .unit)) .imm d1 fun x1 => bindO (laws_eqWidget N x0 x1) fun r => k [⟨.bool, .imm, r⟩] [] | _ => none }
noncomputable def laws_eqWidget.cfg (N : Nat) : Cfg := { ty := tys, keep := [], flt := [], elm := [(22, (.own .imm)), (23, (.own .imm)), (24, (.own (.own .imm))), (25, (.own .imm)), (26, (.pr (.own .imm) .imm)), (27, (.pr (.own .imm) .imm)), (28, (.pr (.own (.own .imm)) .imm)), (29, (.pr (.own (.own .imm)) .imm)), (30, (.own (.pr (.own .imm) .imm))), (31, (.pr (.own (.pr (.own .imm) .imm)) (.pr (.own (.pr (.own .imm) .imm)) .imm))), (32, (.pr (.own (.pr (.own .imm) .imm)) (.pr (.own (.pr (.own .imm) .imm)) .imm))), (33, (.pr (.own (.own .imm)) (.pr .imm (.pr (.own .imm) .imm)))), (34, (.pr (.own (.own .imm)) (.pr .imm (.pr (.own .imm) .imm)))), (35, (.pr (.own .imm) (.pr (.own .imm) (.pr (.own (.own .imm)) (.pr (.pr (.own .imm) .imm) (.pr (.pr (.own (.own .imm)) .imm) (.pr (.pr (.own (.pr (.own .imm) .imm)) (.pr (.own (.pr (.own .imm) .imm)) .imm)) (.pr (.pr (.own (.own .imm)) (.pr .imm (.pr (.own .imm) .imm))) (.pr .imm (.pr .imm (.pr .imm (.pr .imm (.pr .imm (.pr (.own (.own .imm)) .imm)))))))))))))), (36, (.pr (.own .imm) (.pr (.own .imm) (.pr (.own (.own .imm)) (.pr (.pr (.own .imm) .imm) (.pr (.pr (.own (.own .imm)) .imm) (.pr (.pr (.own (.pr (.own .imm) .imm)) (.pr (.own (.pr (.own .imm) .imm)) .imm)) (.pr (.pr (.own (.own .imm)) (.pr .imm (.pr (.own .imm) .imm))) (.pr .imm (.pr .imm (.pr .imm (.pr .imm (.pr .imm (.pr (.own (.own .imm)) .imm)))))))))))))), (66, (.own .imm))], live := [], ord := [], con := [], loops := [], joins := [] }
theorem laws_eqWidget.cons (N : Nat) : ConsOk Try.prog (laws_eqWidget.cfg N).con := consOk_nil
theorem laws_eqWidget.ls (N : Nat) : LoopsOk Try.prog (laws_eqWidget.cfg N) (fnBody Try.f31) := loopsL (l := []) (by kernel_rfl) trivial
theorem laws_eqWidget.b (N : Nat) (x0 : den (.pair .str (.pair .str .unit))) (x1 : den (.pair .str (.pair .str .unit))) : body (laws_eqWidget.cfg N) N Try.f31 [.one, .one] [.v, .v] [(false, .imm)] [⟨(.pair .str (.pair .str .unit)), .imm, x0⟩, ⟨(.pair .str (.pair .str .unit)), .imm, x1⟩] (fun r i => some (r, i)) = bindO (laws_eqWidget N x0 x1) fun r => some ([⟨.bool, .imm, r⟩], []) := by
  show _ = bindF _ _
  conv => rhs; simp only [laws_eqWidget, bindF_ifB, bindF_bindO, bindF_pure, bindF_none, bindF_onSum]
  kernel_rfl
theorem laws_eqWidget.ok (N : Nat) : ConOk Try.prog 31 [.one, .one] (laws_eqWidget.con N) := by
  refine conOk_mk (g := laws_eqWidget.cfg N) (N := N) (res := [(false, .imm)]) tys_ok (laws_eqWidget.cons N) mixed Try.func31 (laws_eqWidget.ls N) rfl rfl ?_
  intro ds R k y h
  cases ds with
  | nil => exact none_some h
  | cons d0 ds =>
  cases ds with
  | nil => exact none_some h
  | cons d1 ds =>
  cases ds with
  | cons _ _ => exact none_some h
  | nil =>
  have h0 : (castDm (.pair .str (.pair .str .unit)) .imm d0 fun x0 => castDm (.pair .str (.pair .str .unit)) .imm d1 fun x1 => bindO (laws_eqWidget N x0 x1) fun r => k [⟨.bool, .imm, r⟩] []) = some y := h
  clear h
  obtain ⟨x0, rfl, h1⟩ := castDm_eq h0
  obtain ⟨x1, rfl, h2⟩ := castDm_eq h1
  exact con_fin (laws_eqWidget.b N x0 x1) h2
theorem laws_eqWidget.det (N : Nat) : ConDet (laws_eqWidget.con N) := by
  intro ds R k y h
  cases ds with
  | nil => exact none_some h
  | cons d0 ds =>
  cases ds with
  | nil => exact none_some h
  | cons d1 ds =>
  cases ds with
  | cons _ _ => exact none_some h
  | nil =>
  have h0 : (castDm (.pair .str (.pair .str .unit)) .imm d0 fun x0 => castDm (.pair .str (.pair .str .unit)) .imm d1 fun x1 => bindO (laws_eqWidget N x0 x1) fun r => k [⟨.bool, .imm, r⟩] []) = some y := h
  clear h
  obtain ⟨x0, rfl, h1⟩ := castDm_eq h0
  obtain ⟨x1, rfl, h2⟩ := castDm_eq h1
  obtain ⟨r, e, h⟩ := bindO_some h2
  refine ⟨_, _, h, fun k' => ?_⟩
  show (castDm (.pair .str (.pair .str .unit)) .imm (⟨(.pair .str (.pair .str .unit)), .imm, x0⟩ : Dy) fun x0 => castDm (.pair .str (.pair .str .unit)) .imm (⟨(.pair .str (.pair .str .unit)), .imm, x1⟩ : Dy) fun x1 => bindO (laws_eqWidget N x0 x1) fun r => k' [⟨.bool, .imm, r⟩] []) = _
  simp only [castDm_self]
  rw [e]
  rfl
def laws_eqWidgetS.sk4 : Skel := ⟨[.pv (.sl 60 (.pair .str (.pair .str .unit))), .pv (.sl 60 (.pair .str (.pair .str .unit))), .dead, .dead, .dead, .pv (.int .i64), .dead, .dead, .dead, .dead, .dead, .dead, .dead, .dead, .dead, .dead, .dead, .dead, .dead, .dead, .dead, .dead, .dead, .dead, .dead, .dead, .dead], []⟩
def laws_eqWidgetS.xs4 : List XS := [⟨.exit 0, [], ⟨[.dead, .dead, .dead, .dead, .dead, .dead, .dead, .dead, .dead, .dead, .dead, .dead, .dead, .dead, .dead, .dead, .dead, .dead, .dead, .dead, .dead, .dead, .dead, .dead, .dead, .dead, .dead], []⟩⟩, ⟨.ret, [4], ⟨[.dead, .dead, .dead, .dead, .pv .bool, .dead, .dead, .dead, .dead, .dead, .dead, .dead, .dead, .dead, .dead, .dead, .dead, .dead, .dead, .dead, .dead, .dead, .dead, .dead, .dead, .dead, .dead], []⟩⟩]
noncomputable def laws_eqWidgetS.con (N : Nat) : Con := { modes := [.v, .v], ptrs := [false], fn := fun ds k => match ds with | [d0, d1] => castDm (.sl 60 (.pair .str (.pair .str .unit))) .imm d0 fun x0 => castDm (.sl 60 (.pair .str (.pair .str .unit))) .imm d1 fun x1 => bindO (laws_eqWidgetS N x0 x1) fun r => k [⟨.bool, .imm, r⟩] [] | _ => none }
noncomputable def laws_eqWidgetS.cfg (N : Nat) : Cfg := { ty := tys, keep := [25], flt := [], elm := [(22, (.own .imm)), (23, (.own .imm)), (24, (.own (.own .imm))), (25, (.own .imm)), (26, (.pr (.own .imm) .imm)), (27, (.pr (.own .imm) .imm)), (28, (.pr (.own (.own .imm)) .imm)), (29, (.pr (.own (.own .imm)) .imm)), (30, (.own (.pr (.own .imm) .imm))), (31, (.pr (.own (.pr (.own .imm) .imm)) (.pr (.own (.pr (.own .imm) .imm)) .imm))), (32, (.pr (.own (.pr (.own .imm) .imm)) (.pr (.own (.pr (.own .imm) .imm)) .imm))), (33, (.pr (.own (.own .imm)) (.pr .imm (.pr (.own .imm) .imm)))), (34, (.pr (.own (.own .imm)) (.pr .imm (.pr (.own .imm) .imm)))), (35, (.pr (.own .imm) (.pr (.own .imm) (.pr (.own (.own .imm)) (.pr (.pr (.own .imm) .imm) (.pr (.pr (.own (.own .imm)) .imm) (.pr (.pr (.own (.pr (.own .imm) .imm)) (.pr (.own (.pr (.own .imm) .imm)) .imm)) (.pr (.pr (.own (.own .imm)) (.pr .imm (.pr (.own .imm) .imm))) (.pr .imm (.pr .imm (.pr .imm (.pr .imm (.pr .imm (.pr (.own (.own .imm)) .imm)))))))))))))), (36, (.pr (.own .imm) (.pr (.own .imm) (.pr (.own (.own .imm)) (.pr (.pr (.own .imm) .imm) (.pr (.pr (.own (.own .imm)) .imm) (.pr (.pr (.own (.pr (.own .imm) .imm)) (.pr (.own (.pr (.own .imm) .imm)) .imm)) (.pr (.pr (.own (.own .imm)) (.pr .imm (.pr (.own .imm) .imm))) (.pr .imm (.pr .imm (.pr .imm (.pr .imm (.pr .imm (.pr (.own (.own .imm)) .imm)))))))))))))), (66, (.own .imm))], live := [(4, [0, 1, 5])], ord := [(6, [0, 1, 2, 3, 4, 5, 6, 7, 8, 9])], con := [((31, [.one, .one]), laws_eqWidget.con N)], loops := [(4, loopCon N laws_eqWidgetS.sk4 laws_eqWidgetS.xs4 (fun {R} => laws_eqWidgetS.l4 (R := R) N))], joins := [] }
theorem laws_eqWidgetS.cons (N : Nat) : ConsOk Try.prog (laws_eqWidgetS.cfg N).con := (consOk_cons (hb31) (laws_eqWidget.ok N) (laws_eqWidget.det N) consOk_nil)
theorem laws_eqWidgetS.h4 {R : Type} (N : Nat) (d : laws_eqWidgetS.sk4.D) (kn : laws_eqWidgetS.sk4.D → Option R) (kx : XD laws_eqWidgetS.xs4 → Option R) : roundK (laws_eqWidgetS.cfg N) N (nthLoop (fnBody Try.f10) 0) laws_eqWidgetS.sk4 laws_eqWidgetS.xs4 d kn kx = laws_eqWidgetS.l4 N d kn kx := by kernel_rfl
theorem laws_eqWidgetS.i4 (N : Nat) : LoopsOk Try.prog (laws_eqWidgetS.cfg N) (nthLoop (fnBody Try.f10) 0) := loopsL (l := []) (by kernel_rfl) trivial
theorem laws_eqWidgetS.o4 (N : Nat) : LoopOk Try.prog (nthLoop (fnBody Try.f10) 0) (loopCon N laws_eqWidgetS.sk4 laws_eqWidgetS.xs4 (fun {R} => laws_eqWidgetS.l4 (R := R) N)) := loop_ok (g := laws_eqWidgetS.cfg N) tys_ok (laws_eqWidgetS.cons N) mixed (laws_eqWidgetS.i4 N) (fun d kn kx => laws_eqWidgetS.h4 N d kn kx)
theorem laws_eqWidgetS.ls (N : Nat) : LoopsOk Try.prog (laws_eqWidgetS.cfg N) (fnBody Try.f10) := loopsL (l := [nthLoop (fnBody Try.f10) 0]) (by kernel_rfl) ⟨loopOne (L0 := loopCon N laws_eqWidgetS.sk4 laws_eqWidgetS.xs4 (fun {R} => laws_eqWidgetS.l4 (R := R) N)) (id := 4) (by kernel_rfl) (by kernel_rfl) (laws_eqWidgetS.o4 N), trivial⟩
theorem laws_eqWidgetS.q4 {R R' : Type} {N n : Nat} {d} {k} {g : R → Option R'} : bindF (loopP (laws_eqWidgetS.l4 N) n d k) g = loopP (laws_eqWidgetS.l4 N) n d fun e => bindF (k e) g := bindF_loopP (fun d kn kx => by simp only [laws_eqWidgetS.l4, bindF_ifB, bindF_bindO, bindF_pure, bindF_none, bindF_onSum]) n d k
theorem laws_eqWidgetS.b (N : Nat) (x0 : den (.sl 60 (.pair .str (.pair .str .unit)))) (x1 : den (.sl 60 (.pair .str (.pair .str .unit)))) : body (laws_eqWidgetS.cfg N) N Try.f10 [.one, .one] [.v, .v] [(false, .imm)] [⟨(.sl 60 (.pair .str (.pair .str .unit))), .imm, x0⟩, ⟨(.sl 60 (.pair .str (.pair .str .unit))), .imm, x1⟩] (fun r i => some (r, i)) = bindO (laws_eqWidgetS N x0 x1) fun r => some ([⟨.bool, .imm, r⟩], []) := by
  show _ = bindF _ _
  conv => rhs; simp only [laws_eqWidgetS, bindF_ifB, bindF_bindO, bindF_pure, bindF_none, bindF_onSum, laws_eqWidgetS.q4]
  kernel_rfl
theorem laws_eqWidgetS.ok (N : Nat) : ConOk Try.prog 10 [.one, .one] (laws_eqWidgetS.con N) := by
  refine conOk_mk (g := laws_eqWidgetS.cfg N) (N := N) (res := [(false, .imm)]) tys_ok (laws_eqWidgetS.cons N) mixed Try.func10 (laws_eqWidgetS.ls N) rfl rfl ?_
  intro ds R k y h
  cases ds with
  | nil => exact none_some h
  | cons d0 ds =>
  cases ds with
  | nil => exact none_some h
  | cons d1 ds =>
  cases ds with
  | cons _ _ => exact none_some h
  | nil =>
  have h0 : (castDm (.sl 60 (.pair .str (.pair .str .unit))) .imm d0 fun x0 => castDm (.sl 60 (.pair .str (.pair .str .unit))) .imm d1 fun x1 => bindO (laws_eqWidgetS N x0 x1) fun r => k [⟨.bool, .imm, r⟩] []) = some y := h
  clear h
  obtain ⟨x0, rfl, h1⟩ := castDm_eq h0
  obtain ⟨x1, rfl, h2⟩ := castDm_eq h1
  exact con_fin (laws_eqWidgetS.b N x0 x1) h2
theorem laws_eqWidgetS.det (N : Nat) : ConDet (laws_eqWidgetS.con N) := by
  intro ds R k y h
  cases ds with
  | nil => exact none_some h
  | cons d0 ds =>
  cases ds with
  | nil => exact none_some h
  | cons d1 ds =>
  cases ds with
  | cons _ _ => exact none_some h
  | nil =>
  have h0 : (castDm (.sl 60 (.pair .str (.pair .str .unit))) .imm d0 fun x0 => castDm (.sl 60 (.pair .str (.pair .str .unit))) .imm d1 fun x1 => bindO (laws_eqWidgetS N x0 x1) fun r => k [⟨.bool, .imm, r⟩] []) = some y := h
  clear h
  obtain ⟨x0, rfl, h1⟩ := castDm_eq h0
  obtain ⟨x1, rfl, h2⟩ := castDm_eq h1
  obtain ⟨r, e, h⟩ := bindO_some h2
  refine ⟨_, _, h, fun k' => ?_⟩
  show (castDm (.sl 60 (.pair .str (.pair .str .unit))) .imm (⟨(.sl 60 (.pair .str (.pair .str .unit))), .imm, x0⟩ : Dy) fun x0 => castDm (.sl 60 (.pair .str (.pair .str .unit))) .imm (⟨(.sl 60 (.pair .str (.pair .str .unit))), .imm, x1⟩ : Dy) fun x1 => bindO (laws_eqWidgetS N x0 x1) fun r => k' [⟨.bool, .imm, r⟩] []) = _
  simp only [castDm_self]
  rw [e]
  rfl
def laws_eqInt64S.sk4 : Skel := ⟨[.pv (.sl 2 (.int .i64)), .pv (.sl 2 (.int .i64)), .dead, .dead, .dead, .pv (.int .i64), .dead, .dead, .dead, .dead, .dead, .dead, .dead, .dead, .dead, .dead, .dead, .dead, .dead, .dead, .dead, .dead, .dead, .dead, .dead, .dead], []⟩
def laws_eqInt64S.xs4 : List XS := [⟨.exit 0, [], ⟨[.dead, .dead, .dead, .dead, .dead, .dead, .dead, .dead, .dead, .dead, .dead, .dead, .dead, .dead, .dead, .dead, .dead, .dead, .dead, .dead, .dead, .dead, .dead, .dead, .dead, .dead], []⟩⟩, ⟨.ret, [4], ⟨[.dead, .dead, .dead, .dead, .pv .bool, .dead, .dead, .dead, .dead, .dead, .dead, .dead, .dead, .dead, .dead, .dead, .dead, .dead, .dead, .dead, .dead, .dead, .dead, .dead, .dead, .dead], []⟩⟩]
noncomputable def laws_eqInt64S.con (N : Nat) : Con := { modes := [.v, .v], ptrs := [false], fn := fun ds k => match ds with | [d0, d1] => castDm (.sl 2 (.int .i64)) .imm d0 fun x0 => castDm (.sl 2 (.int .i64)) .imm d1 fun x1 => bindO (laws_eqInt64S N x0 x1) fun r => k [⟨.bool, .imm, r⟩] [] | _ => none }
noncomputable def laws_eqInt64S.cfg (N : Nat) : Cfg := { ty := tys, keep := [], flt := [], elm := [(22, (.own .imm)), (23, (.own .imm)), (24, (.own (.own .imm))), (25, (.own .imm)), (26, (.pr (.own .imm) .imm)), (27, (.pr (.own .imm) .imm)), (28, (.pr (.own (.own .imm)) .imm)), (29, (.pr (.own (.own .imm)) .imm)), (30, (.own (.pr (.own .imm) .imm))), (31, (.pr (.own (.pr (.own .imm) .imm)) (.pr (.own (.pr (.own .imm) .imm)) .imm))), (32, (.pr (.own (.pr (.own .imm) .imm)) (.pr (.own (.pr (.own .imm) .imm)) .imm))), (33, (.pr (.own (.own .imm)) (.pr .imm (.pr (.own .imm) .imm)))), (34, (.pr (.own (.own .imm)) (.pr .imm (.pr (.own .imm) .imm)))), (35, (.pr (.own .imm) (.pr (.own .imm) (.pr (.own (.own .imm)) (.pr (.pr (.own .imm) .imm) (.pr (.pr (.own (.own .imm)) .imm) (.pr (.pr (.own (.pr (.own .imm) .imm)) (.pr (.own (.pr (.own .imm) .imm)) .imm)) (.pr (.pr (.own (.own .imm)) (.pr .imm (.pr (.own .imm) .imm))) (.pr .imm (.pr .imm (.pr .imm (.pr .imm (.pr .imm (.pr (.own (.own .imm)) .imm)))))))))))))), (36, (.pr (.own .imm) (.pr (.own .imm) (.pr (.own (.own .imm)) (.pr (.pr (.own .imm) .imm) (.pr (.pr (.own (.own .imm)) .imm) (.pr (.pr (.own (.pr (.own .imm) .imm)) (.pr (.own (.pr (.own .imm) .imm)) .imm)) (.pr (.pr (.own (.own .imm)) (.pr .imm (.pr (.own .imm) .imm))) (.pr .imm (.pr .imm (.pr .imm (.pr .imm (.pr .imm (.pr (.own (.own .imm)) .imm)))))))))))))), (66, (.own .imm))], live := [(4, [0, 1, 5])], ord := [(6, [0, 1, 2, 3, 4, 5, 6, 7, 8])], con := [], loops := [(4, loopCon N laws_eqInt64S.sk4 laws_eqInt64S.xs4 (fun {R} => laws_eqInt64S.l4 (R := R) N))], joins := [] }
theorem laws_eqInt64S.cons (N : Nat) : ConsOk Try.prog (laws_eqInt64S.cfg N).con := consOk_nil
theorem laws_eqInt64S.h4 {R : Type} (N : Nat) (d : laws_eqInt64S.sk4.D) (kn : laws_eqInt64S.sk4.D → Option R) (kx : XD laws_eqInt64S.xs4 → Option R) : roundK (laws_eqInt64S.cfg N) N (nthLoop (fnBody Try.f32) 0) laws_eqInt64S.sk4 laws_eqInt64S.xs4 d kn kx = laws_eqInt64S.l4 N d kn kx := by kernel_rfl
theorem laws_eqInt64S.i4 (N : Nat) : LoopsOk Try.prog (laws_eqInt64S.cfg N) (nthLoop (fnBody Try.f32) 0) := loopsL (l := []) (by kernel_rfl) trivial
theorem laws_eqInt64S.o4 (N : Nat) : LoopOk Try.prog (nthLoop (fnBody Try.f32) 0) (loopCon N laws_eqInt64S.sk4 laws_eqInt64S.xs4 (fun {R} => laws_eqInt64S.l4 (R := R) N)) := loop_ok (g := laws_eqInt64S.cfg N) tys_ok (laws_eqInt64S.cons N) mixed (laws_eqInt64S.i4 N) (fun d kn kx => laws_eqInt64S.h4 N d kn kx)
theorem laws_eqInt64S.ls (N : Nat) : LoopsOk Try.prog (laws_eqInt64S.cfg N) (fnBody Try.f32) := loopsL (l := [nthLoop (fnBody Try.f32) 0]) (by kernel_rfl) ⟨loopOne (L0 := loopCon N laws_eqInt64S.sk4 laws_eqInt64S.xs4 (fun {R} => laws_eqInt64S.l4 (R := R) N)) (id := 4) (by kernel_rfl) (by kernel_rfl) (laws_eqInt64S.o4 N), trivial⟩
theorem laws_eqInt64S.q4 {R R' : Type} {N n : Nat} {d} {k} {g : R → Option R'} : bindF (loopP (laws_eqInt64S.l4 N) n d k) g = loopP (laws_eqInt64S.l4 N) n d fun e => bindF (k e) g := bindF_loopP (fun d kn kx => by simp only [laws_eqInt64S.l4, bindF_ifB, bindF_bindO, bindF_pure, bindF_none, bindF_onSum]) n d k
theorem laws_eqInt64S.b (N : Nat) (x0 : den (.sl 2 (.int .i64))) (x1 : den (.sl 2 (.int .i64))) : body (laws_eqInt64S.cfg N) N Try.f32 [.one, .one] [.v, .v] [(false, .imm)] [⟨(.sl 2 (.int .i64)), .imm, x0⟩, ⟨(.sl 2 (.int .i64)), .imm, x1⟩] (fun r i => some (r, i)) = bindO (laws_eqInt64S N x0 x1) fun r => some ([⟨.bool, .imm, r⟩], []) := by
  show _ = bindF _ _
  conv => rhs; simp only [laws_eqInt64S, bindF_ifB, bindF_bindO, bindF_pure, bindF_none, bindF_onSum, laws_eqInt64S.q4]
  kernel_rfl
theorem laws_eqInt64S.ok (N : Nat) : ConOk Try.prog 32 [.one, .one] (laws_eqInt64S.con N) := by
  refine conOk_mk (g := laws_eqInt64S.cfg N) (N := N) (res := [(false, .imm)]) tys_ok (laws_eqInt64S.cons N) mixed Try.func32 (laws_eqInt64S.ls N) rfl rfl ?_
  intro ds R k y h
  cases ds with
  | nil => exact none_some h
  | cons d0 ds =>
  cases ds with
  | nil => exact none_some h
  | cons d1 ds =>
  cases ds with
  | cons _ _ => exact none_some h
  | nil =>
  have h0 : (castDm (.sl 2 (.int .i64)) .imm d0 fun x0 => castDm (.sl 2 (.int .i64)) .imm d1 fun x1 => bindO (laws_eqInt64S N x0 x1) fun r => k [⟨.bool, .imm, r⟩] []) = some y := h
  clear h
  obtain ⟨x0, rfl, h1⟩ := castDm_eq h0
  obtain ⟨x1, rfl, h2⟩ := castDm_eq h1
  exact con_fin (laws_eqInt64S.b N x0 x1) h2
theorem laws_eqInt64S.det (N : Nat) : ConDet (laws_eqInt64S.con N) := by
  intro ds R k y h
  cases ds with
  | nil => exact none_some h
  | cons d0 ds =>
  cases ds with
  | nil => exact none_some h
  | cons d1 ds =>
  cases ds with
  | cons _ _ => exact none_some h
  | nil =>
  have h0 : (castDm (.sl 2 (.int .i64)) .imm d0 fun x0 => castDm (.sl 2 (.int .i64)) .imm d1 fun x1 => bindO (laws_eqInt64S N x0 x1) fun r => k [⟨.bool, .imm, r⟩] []) = some y := h
  clear h
  obtain ⟨x0, rfl, h1⟩ := castDm_eq h0
  obtain ⟨x1, rfl, h2⟩ := castDm_eq h1
  obtain ⟨r, e, h⟩ := bindO_some h2
  refine ⟨_, _, h, fun k' => ?_⟩
  show (castDm (.sl 2 (.int .i64)) .imm (⟨(.sl 2 (.int .i64)), .imm, x0⟩ : Dy) fun x0 => castDm (.sl 2 (.int .i64)) .imm (⟨(.sl 2 (.int .i64)), .imm, x1⟩ : Dy) fun x1 => bindO (laws_eqInt64S N x0 x1) fun r => k' [⟨.bool, .imm, r⟩] []) = _
  simp only [castDm_self]
  rw [e]
  rfl
def laws_eqInt64SS.sk4 : Skel := ⟨[.pv (.sl 25 (.sl 2 (.int .i64))), .pv (.sl 25 (.sl 2 (.int .i64))), .dead, .dead, .dead, .pv (.int .i64), .dead, .dead, .dead, .dead, .dead, .dead, .dead, .dead, .dead, .dead, .dead, .dead, .dead, .dead, .dead, .dead, .dead, .dead, .dead, .dead, .dead], []⟩
def laws_eqInt64SS.xs4 : List XS := [⟨.exit 0, [], ⟨[.dead, .dead, .dead, .dead, .dead, .dead, .dead, .dead, .dead, .dead, .dead, .dead, .dead, .dead, .dead, .dead, .dead, .dead, .dead, .dead, .dead, .dead, .dead, .dead, .dead, .dead, .dead], []⟩⟩, ⟨.ret, [4], ⟨[.dead, .dead, .dead, .dead, .pv .bool, .dead, .dead, .dead, .dead, .dead, .dead, .dead, .dead, .dead, .dead, .dead, .dead, .dead, .dead, .dead, .dead, .dead, .dead, .dead, .dead, .dead, .dead], []⟩⟩]
noncomputable def laws_eqInt64SS.con (N : Nat) : Con := { modes := [.v, .v], ptrs := [false], fn := fun ds k => match ds with | [d0, d1] => castDm (.sl 25 (.sl 2 (.int .i64))) .imm d0 fun x0 => castDm (.sl 25 (.sl 2 (.int .i64))) .imm d1 fun x1 => bindO (laws_eqInt64SS N x0 x1) fun r => k [⟨.bool, .imm, r⟩] [] | _ => none }
noncomputable def laws_eqInt64SS.cfg (N : Nat) : Cfg := { ty := tys, keep := [25], flt := [], elm := [(22, (.own .imm)), (23, (.own .imm)), (24, (.own (.own .imm))), (25, (.own .imm)), (26, (.pr (.own .imm) .imm)), (27, (.pr (.own .imm) .imm)), (28, (.pr (.own (.own .imm)) .imm)), (29, (.pr (.own (.own .imm)) .imm)), (30, (.own (.pr (.own .imm) .imm))), (31, (.pr (.own (.pr (.own .imm) .imm)) (.pr (.own (.pr (.own .imm) .imm)) .imm))), (32, (.pr (.own (.pr (.own .imm) .imm)) (.pr (.own (.pr (.own .imm) .imm)) .imm))), (33, (.pr (.own (.own .imm)) (.pr .imm (.pr (.own .imm) .imm)))), (34, (.pr (.own (.own .imm)) (.pr .imm (.pr (.own .imm) .imm)))), (35, (.pr (.own .imm) (.pr (.own .imm) (.pr (.own (.own .imm)) (.pr (.pr (.own .imm) .imm) (.pr (.pr (.own (.own .imm)) .imm) (.pr (.pr (.own (.pr (.own .imm) .imm)) (.pr (.own (.pr (.own .imm) .imm)) .imm)) (.pr (.pr (.own (.own .imm)) (.pr .imm (.pr (.own .imm) .imm))) (.pr .imm (.pr .imm (.pr .imm (.pr .imm (.pr .imm (.pr (.own (.own .imm)) .imm)))))))))))))), (36, (.pr (.own .imm) (.pr (.own .imm) (.pr (.own (.own .imm)) (.pr (.pr (.own .imm) .imm) (.pr (.pr (.own (.own .imm)) .imm) (.pr (.pr (.own (.pr (.own .imm) .imm)) (.pr (.own (.pr (.own .imm) .imm)) .imm)) (.pr (.pr (.own (.own .imm)) (.pr .imm (.pr (.own .imm) .imm))) (.pr .imm (.pr .imm (.pr .imm (.pr .imm (.pr .imm (.pr (.own (.own .imm)) .imm)))))))))))))), (66, (.own .imm))], live := [(4, [0, 1, 5])], ord := [(6, [0, 1, 2, 3, 4, 5, 6, 7, 8, 9])], con := [((32, [.one, .one]), laws_eqInt64S.con N)], loops := [(4, loopCon N laws_eqInt64SS.sk4 laws_eqInt64SS.xs4 (fun {R} => laws_eqInt64SS.l4 (R := R) N))], joins := [] }
theorem laws_eqInt64SS.cons (N : Nat) : ConsOk Try.prog (laws_eqInt64SS.cfg N).con := (consOk_cons (hb32) (laws_eqInt64S.ok N) (laws_eqInt64S.det N) consOk_nil)
theorem laws_eqInt64SS.h4 {R : Type} (N : Nat) (d : laws_eqInt64SS.sk4.D) (kn : laws_eqInt64SS.sk4.D → Option R) (kx : XD laws_eqInt64SS.xs4 → Option R) : roundK (laws_eqInt64SS.cfg N) N (nthLoop (fnBody Try.f11) 0) laws_eqInt64SS.sk4 laws_eqInt64SS.xs4 d kn kx = laws_eqInt64SS.l4 N d kn kx := by kernel_rfl
theorem laws_eqInt64SS.i4 (N : Nat) : LoopsOk Try.prog (laws_eqInt64SS.cfg N) (nthLoop (fnBody Try.f11) 0) := loopsL (l := []) (by kernel_rfl) trivial
theorem laws_eqInt64SS.o4 (N : Nat) : LoopOk Try.prog (nthLoop (fnBody Try.f11) 0) (loopCon N laws_eqInt64SS.sk4 laws_eqInt64SS.xs4 (fun {R} => laws_eqInt64SS.l4 (R := R) N)) := loop_ok (g := laws_eqInt64SS.cfg N) tys_ok (laws_eqInt64SS.cons N) mixed (laws_eqInt64SS.i4 N) (fun d kn kx => laws_eqInt64SS.h4 N d kn kx)
theorem laws_eqInt64SS.ls (N : Nat) : LoopsOk Try.prog (laws_eqInt64SS.cfg N) (fnBody Try.f11) := loopsL (l := [nthLoop (fnBody Try.f11) 0]) (by kernel_rfl) ⟨loopOne (L0 := loopCon N laws_eqInt64SS.sk4 laws_eqInt64SS.xs4 (fun {R} => laws_eqInt64SS.l4 (R := R) N)) (id := 4) (by kernel_rfl) (by kernel_rfl) (laws_eqInt64SS.o4 N), trivial⟩
theorem laws_eqInt64SS.q4 {R R' : Type} {N n : Nat} {d} {k} {g : R → Option R'} : bindF (loopP (laws_eqInt64SS.l4 N) n d k) g = loopP (laws_eqInt64SS.l4 N) n d fun e => bindF (k e) g := bindF_loopP (fun d kn kx => by simp only [laws_eqInt64SS.l4, bindF_ifB, bindF_bindO, bindF_pure, bindF_none, bindF_onSum]) n d k
theorem laws_eqInt64SS.b (N : Nat) (x0 : den (.sl 25 (.sl 2 (.int .i64)))) (x1 : den (.sl 25 (.sl 2 (.int .i64)))) : body (laws_eqInt64SS.cfg N) N Try.f11 [.one, .one] [.v, .v] [(false, .imm)] [⟨(.sl 25 (.sl 2 (.int .i64))), .imm, x0⟩, ⟨(.sl 25 (.sl 2 (.int .i64))), .imm, x1⟩] (fun r i => some (r, i)) = bindO (laws_eqInt64SS N x0 x1) fun r => some ([⟨.bool, .imm, r⟩], []) := by
  show _ = bindF _ _
  conv => rhs; simp only [laws_eqInt64SS, bindF_ifB, bindF_bindO, bindF_pure, bindF_none, bindF_onSum, laws_eqInt64SS.q4]
  kernel_rfl
theorem laws_eqInt64SS.ok (N : Nat) : ConOk Try.prog 11 [.one, .one] (laws_eqInt64SS.con N) := by
  refine conOk_mk (g := laws_eqInt64SS.cfg N) (N := N) (res := [(false, .imm)]) tys_ok (laws_eqInt64SS.cons N) mixed Try.func11 (laws_eqInt64SS.ls N) rfl rfl ?_
  intro ds R k y h
  cases ds with
  | nil => exact none_some h
  | cons d0 ds =>
  cases ds with
  | nil => exact none_some h
  | cons d1 ds =>
  cases ds with
  | cons _ _ => exact none_some h
  | nil =>
  have h0 : (castDm (.sl 25 (.sl 2 (.int .i64))) .imm d0 fun x0 => castDm (.sl 25 (.sl 2 (.int .i64))) .imm d1 fun x1 => bindO (laws_eqInt64SS N x0 x1) fun r => k [⟨.bool, .imm, r⟩] []) = some y := h
  clear h
  obtain ⟨x0, rfl, h1⟩ := castDm_eq h0
  obtain ⟨x1, rfl, h2⟩ := castDm_eq h1
  exact con_fin (laws_eqInt64SS.b N x0 x1) h2
theorem laws_eqInt64SS.det (N : Nat) : ConDet (laws_eqInt64SS.con N) := by
  intro ds R k y h
  cases ds with
  | nil => exact none_some h
  | cons d0 ds =>
  cases ds with
  | nil => exact none_some h
  | cons d1 ds =>
  cases ds with
  | cons _ _ => exact none_some h
  | nil =>
  have h0 : (castDm (.sl 25 (.sl 2 (.int .i64))) .imm d0 fun x0 => castDm (.sl 25 (.sl 2 (.int .i64))) .imm d1 fun x1 => bindO (laws_eqInt64SS N x0 x1) fun r => k [⟨.bool, .imm, r⟩] []) = some y := h
  clear h
  obtain ⟨x0, rfl, h1⟩ := castDm_eq h0
  obtain ⟨x1, rfl, h2⟩ := castDm_eq h1
  obtain ⟨r, e, h⟩ := bindO_some h2
  refine ⟨_, _, h, fun k' => ?_⟩
  show (castDm (.sl 25 (.sl 2 (.int .i64))) .imm (⟨(.sl 25 (.sl 2 (.int .i64))), .imm, x0⟩ : Dy) fun x0 => castDm (.sl 25 (.sl 2 (.int .i64))) .imm (⟨(.sl 25 (.sl 2 (.int .i64))), .imm, x1⟩ : Dy) fun x1 => bindO (laws_eqInt64SS N x0 x1) fun r => k' [⟨.bool, .imm, r⟩] []) = _
  simp only [castDm_self]
  rw [e]
  rfl
noncomputable def laws_eqBuf.con (N : Nat) : Con := { modes := [.v, .v], ptrs := [false], fn := fun ds k => match ds with | [d0, d1] => castDm (.pair (.sl 2 (.int .i64)) (.pair (.int .i64) (.pair (.int .i64) .unit))) .imm d0 fun x0 => castDm (.pair (.sl 2 (.int .i64)) (.pair (.int .i64) (.pair (.int .i64) .unit))) .imm d1 fun x1 => bindO (laws_eqBuf N x0 x1) fun r => k [⟨.bool, .imm, r⟩] [] | _ => none }
noncomputable def laws_eqBuf.cfg (N : Nat) : Cfg := { ty := tys, keep := [9], flt := [], elm := [(22, (.own .imm)), (23, (.own .imm)), (24, (.own (.own .imm))), (25, (.own .imm)), (26, (.pr (.own .imm) .imm)), (27, (.pr (.own .imm) .imm)), (28, (.pr (.own (.own .imm)) .imm)), (29, (.pr (.own (.own .imm)) .imm)), (30, (.own (.pr (.own .imm) .imm))), (31, (.pr (.own (.pr (.own .imm) .imm)) (.pr (.own (.pr (.own .imm) .imm)) .imm))), (32, (.pr (.own (.pr (.own .imm) .imm)) (.pr (.own (.pr (.own .imm) .imm)) .imm))), (33, (.pr (.own (.own .imm)) (.pr .imm (.pr (.own .imm) .imm)))), (34, (.pr (.own (.own .imm)) (.pr .imm (.pr (.own .imm) .imm)))), (35, (.pr (.own .imm) (.pr (.own .imm) (.pr (.own (.own .imm)) (.pr (.pr (.own .imm) .imm) (.pr (.pr (.own (.own .imm)) .imm) (.pr (.pr (.own (.pr (.own .imm) .imm)) (.pr (.own (.pr (.own .imm) .imm)) .imm)) (.pr (.pr (.own (.own .imm)) (.pr .imm (.pr (.own .imm) .imm))) (.pr .imm (.pr .imm (.pr .imm (.pr .imm (.pr .imm (.pr (.own (.own .imm)) .imm)))))))))))))), (36, (.pr (.own .imm) (.pr (.own .imm) (.pr (.own (.own .imm)) (.pr (.pr (.own .imm) .imm) (.pr (.pr (.own (.own .imm)) .imm) (.pr (.pr (.own (.pr (.own .imm) .imm)) (.pr (.own (.pr (.own .imm) .imm)) .imm)) (.pr (.pr (.own (.own .imm)) (.pr .imm (.pr (.own .imm) .imm))) (.pr .imm (.pr .imm (.pr .imm (.pr .imm (.pr .imm (.pr (.own (.own .imm)) .imm)))))))))))))), (66, (.own .imm))], live := [], ord := [], con := [((32, [.one, .one]), laws_eqInt64S.con N)], loops := [], joins := [] }
theorem laws_eqBuf.cons (N : Nat) : ConsOk Try.prog (laws_eqBuf.cfg N).con := (consOk_cons (hb32) (laws_eqInt64S.ok N) (laws_eqInt64S.det N) consOk_nil)
theorem laws_eqBuf.ls (N : Nat) : LoopsOk Try.prog (laws_eqBuf.cfg N) (fnBody Try.f12) := loopsL (l := []) (by kernel_rfl) trivial
theorem laws_eqBuf.b (N : Nat) (x0 : den (.pair (.sl 2 (.int .i64)) (.pair (.int .i64) (.pair (.int .i64) .unit)))) (x1 : den (.pair (.sl 2 (.int .i64)) (.pair (.int .i64) (.pair (.int .i64) .unit)))) : body (laws_eqBuf.cfg N) N Try.f12 [.one, .one] [.v, .v] [(false, .imm)] [⟨(.pair (.sl 2 (.int .i64)) (.pair (.int .i64) (.pair (.int .i64) .unit))), .imm, x0⟩, ⟨(.pair (.sl 2 (.int .i64)) (.pair (.int .i64) (.pair (.int .i64) .unit))), .imm, x1⟩] (fun r i => some (r, i)) = bindO (laws_eqBuf N x0 x1) fun r => some ([⟨.bool, .imm, r⟩], []) := by
  show _ = bindF _ _
  conv => rhs; simp only [laws_eqBuf, bindF_ifB, bindF_bindO, bindF_pure, bindF_none, bindF_onSum]
  kernel_rfl
theorem laws_eqBuf.ok (N : Nat) : ConOk Try.prog 12 [.one, .one] (laws_eqBuf.con N) := by
  refine conOk_mk (g := laws_eqBuf.cfg N) (N := N) (res := [(false, .imm)]) tys_ok (laws_eqBuf.cons N) mixed Try.func12 (laws_eqBuf.ls N) rfl rfl ?_
  intro ds R k y h
  cases ds with
  | nil => exact none_some h
  | cons d0 ds =>
  cases ds with
  | nil => exact none_some h
  | cons d1 ds =>
  cases ds with
  | cons _ _ => exact none_some h
  | nil =>
  have h0 : (castDm (.pair (.sl 2 (.int .i64)) (.pair (.int .i64) (.pair (.int .i64) .unit))) .imm d0 fun x0 => castDm (.pair (.sl 2 (.int .i64)) (.pair (.int .i64) (.pair (.int .i64) .unit))) .imm d1 fun x1 => bindO (laws_eqBuf N x0 x1) fun r => k [⟨.bool, .imm, r⟩] []) = some y := h
  clear h
  obtain ⟨x0, rfl, h1⟩ := castDm_eq h0
  obtain ⟨x1, rfl, h2⟩ := castDm_eq h1
  exact con_fin (laws_eqBuf.b N x0 x1) h2
theorem laws_eqBuf.det (N : Nat) : ConDet (laws_eqBuf.con N) := by
  intro ds R k y h
  cases ds with
  | nil => exact none_some h
  | cons d0 ds =>
  cases ds with
  | nil => exact none_some h
  | cons d1 ds =>
  cases ds with
  | cons _ _ => exact none_some h
  | nil =>
  have h0 : (castDm (.pair (.sl 2 (.int .i64)) (.pair (.int .i64) (.pair (.int .i64) .unit))) .imm d0 fun x0 => castDm (.pair (.sl 2 (.int .i64)) (.pair (.int .i64) (.pair (.int .i64) .unit))) .imm d1 fun x1 => bindO (laws_eqBuf N x0 x1) fun r => k [⟨.bool, .imm, r⟩] []) = some y := h
  clear h
  obtain ⟨x0, rfl, h1⟩ := castDm_eq h0
  obtain ⟨x1, rfl, h2⟩ := castDm_eq h1
  obtain ⟨r, e, h⟩ := bindO_some h2
  refine ⟨_, _, h, fun k' => ?_⟩
  show (castDm (.pair (.sl 2 (.int .i64)) (.pair (.int .i64) (.pair (.int .i64) .unit))) .imm (⟨(.pair (.sl 2 (.int .i64)) (.pair (.int .i64) (.pair (.int .i64) .unit))), .imm, x0⟩ : Dy) fun x0 => castDm (.pair (.sl 2 (.int .i64)) (.pair (.int .i64) (.pair (.int .i64) .unit))) .imm (⟨(.pair (.sl 2 (.int .i64)) (.pair (.int .i64) (.pair (.int .i64) .unit))), .imm, x1⟩ : Dy) fun x1 => bindO (laws_eqBuf N x0 x1) fun r => k' [⟨.bool, .imm, r⟩] []) = _
  simp only [castDm_self]
  rw [e]
  rfl
noncomputable def laws_eqRing.con (N : Nat) : Con := { modes := [.v, .v], ptrs := [false], fn := fun ds k => match ds with | [d0, d1] => castDm (.pair (.sl 25 (.sl 2 (.int .i64))) (.pair (.int .i64) .unit)) .imm d0 fun x0 => castDm (.pair (.sl 25 (.sl 2 (.int .i64))) (.pair (.int .i64) .unit)) .imm d1 fun x1 => bindO (laws_eqRing N x0 x1) fun r => k [⟨.bool, .imm, r⟩] [] | _ => none }
noncomputable def laws_eqRing.cfg (N : Nat) : Cfg := { ty := tys, keep := [9], flt := [], elm := [(22, (.own .imm)), (23, (.own .imm)), (24, (.own (.own .imm))), (25, (.own .imm)), (26, (.pr (.own .imm) .imm)), (27, (.pr (.own .imm) .imm)), (28, (.pr (.own (.own .imm)) .imm)), (29, (.pr (.own (.own .imm)) .imm)), (30, (.own (.pr (.own .imm) .imm))), (31, (.pr (.own (.pr (.own .imm) .imm)) (.pr (.own (.pr (.own .imm) .imm)) .imm))), (32, (.pr (.own (.pr (.own .imm) .imm)) (.pr (.own (.pr (.own .imm) .imm)) .imm))), (33, (.pr (.own (.own .imm)) (.pr .imm (.pr (.own .imm) .imm)))), (34, (.pr (.own (.own .imm)) (.pr .imm (.pr (.own .imm) .imm)))), (35, (.pr (.own .imm) (.pr (.own .imm) (.pr (.own (.own .imm)) (.pr (.pr (.own .imm) .imm) (.pr (.pr (.own (.own .imm)) .imm) (.pr (.pr (.own (.pr (.own .imm) .imm)) (.pr (.own (.pr (.own .imm) .imm)) .imm)) (.pr (.pr (.own (.own .imm)) (.pr .imm (.pr (.own .imm) .imm))) (.pr .imm (.pr .imm (.pr .imm (.pr .imm (.pr .imm (.pr (.own (.own .imm)) .imm)))))))))))))), (36, (.pr (.own .imm) (.pr (.own .imm) (.pr (.own (.own .imm)) (.pr (.pr (.own .imm) .imm) (.pr (.pr (.own (.own .imm)) .imm) (.pr (.pr (.own (.pr (.own .imm) .imm)) (.pr (.own (.pr (.own .imm) .imm)) .imm)) (.pr (.pr (.own (.own .imm)) (.pr .imm (.pr (.own .imm) .imm))) (.pr .imm (.pr .imm (.pr .imm (.pr .imm (.pr .imm (.pr (.own (.own .imm)) .imm)))))))))))))), (66, (.own .imm))], live := [], ord := [], con := [((11, [.one, .one]), laws_eqInt64SS.con N)], loops := [], joins := [] }
theorem laws_eqRing.cons (N : Nat) : ConsOk Try.prog (laws_eqRing.cfg N).con := (consOk_cons (hb11) (laws_eqInt64SS.ok N) (laws_eqInt64SS.det N) consOk_nil)
theorem laws_eqRing.ls (N : Nat) : LoopsOk Try.prog (laws_eqRing.cfg N) (fnBody Try.f13) := loopsL (l := []) (by kernel_rfl) trivial
theorem laws_eqRing.b (N : Nat) (x0 : den (.pair (.sl 25 (.sl 2 (.int .i64))) (.pair (.int .i64) .unit))) (x1 : den (.pair (.sl 25 (.sl 2 (.int .i64))) (.pair (.int .i64) .unit))) : body (laws_eqRing.cfg N) N Try.f13 [.one, .one] [.v, .v] [(false, .imm)] [⟨(.pair (.sl 25 (.sl 2 (.int .i64))) (.pair (.int .i64) .unit)), .imm, x0⟩, ⟨(.pair (.sl 25 (.sl 2 (.int .i64))) (.pair (.int .i64) .unit)), .imm, x1⟩] (fun r i => some (r, i)) = bindO (laws_eqRing N x0 x1) fun r => some ([⟨.bool, .imm, r⟩], []) := by
  show _ = bindF _ _
  conv => rhs; simp only [laws_eqRing, bindF_ifB, bindF_bindO, bindF_pure, bindF_none, bindF_onSum]
  kernel_rfl
theorem laws_eqRing.ok (N : Nat) : ConOk Try.prog 13 [.one, .one] (laws_eqRing.con N) := by
  refine conOk_mk (g := laws_eqRing.cfg N) (N := N) (res := [(false, .imm)]) tys_ok (laws_eqRing.cons N) mixed Try.func13 (laws_eqRing.ls N) rfl rfl ?_
  intro ds R k y h
  cases ds with
  | nil => exact none_some h
  | cons d0 ds =>
  cases ds with
  | nil => exact none_some h
  | cons d1 ds =>
  cases ds with
  | cons _ _ => exact none_some h
  | nil =>
  have h0 : (castDm (.pair (.sl 25 (.sl 2 (.int .i64))) (.pair (.int .i64) .unit)) .imm d0 fun x0 => castDm (.pair (.sl 25 (.sl 2 (.int .i64))) (.pair (.int .i64) .unit)) .imm d1 fun x1 => bindO (laws_eqRing N x0 x1) fun r => k [⟨.bool, .imm, r⟩] []) = some y := h
  clear h
  obtain ⟨x0, rfl, h1⟩ := castDm_eq h0
  obtain ⟨x1, rfl, h2⟩ := castDm_eq h1
  exact con_fin (laws_eqRing.b N x0 x1) h2
theorem laws_eqRing.det (N : Nat) : ConDet (laws_eqRing.con N) := by
  intro ds R k y h
  cases ds with
  | nil => exact none_some h
  | cons d0 ds =>
  cases ds with
  | nil => exact none_some h
  | cons d1 ds =>
  cases ds with
  | cons _ _ => exact none_some h
  | nil =>
  have h0 : (castDm (.pair (.sl 25 (.sl 2 (.int .i64))) (.pair (.int .i64) .unit)) .imm d0 fun x0 => castDm (.pair (.sl 25 (.sl 2 (.int .i64))) (.pair (.int .i64) .unit)) .imm d1 fun x1 => bindO (laws_eqRing N x0 x1) fun r => k [⟨.bool, .imm, r⟩] []) = some y := h
  clear h
  obtain ⟨x0, rfl, h1⟩ := castDm_eq h0
  obtain ⟨x1, rfl, h2⟩ := castDm_eq h1
  obtain ⟨r, e, h⟩ := bindO_some h2
  refine ⟨_, _, h, fun k' => ?_⟩
  show (castDm (.pair (.sl 25 (.sl 2 (.int .i64))) (.pair (.int .i64) .unit)) .imm (⟨(.pair (.sl 25 (.sl 2 (.int .i64))) (.pair (.int .i64) .unit)), .imm, x0⟩ : Dy) fun x0 => castDm (.pair (.sl 25 (.sl 2 (.int .i64))) (.pair (.int .i64) .unit)) .imm (⟨(.pair (.sl 25 (.sl 2 (.int .i64))) (.pair (.int .i64) .unit)), .imm, x1⟩ : Dy) fun x1 => bindO (laws_eqRing N x0 x1) fun r => k' [⟨.bool, .imm, r⟩] []) = _
  simp only [castDm_self]
  rw [e]
  rfl
def laws_eqBufS.sk4 : Skel := ⟨[.pv (.sl 27 (.pair (.sl 2 (.int .i64)) (.pair (.int .i64) (.pair (.int .i64) .unit)))), .pv (.sl 27 (.pair (.sl 2 (.int .i64)) (.pair (.int .i64) (.pair (.int .i64) .unit)))), .dead, .dead, .dead, .pv (.int .i64), .dead, .dead, .dead, .dead, .dead, .dead, .dead, .dead, .dead, .dead, .dead, .dead, .dead, .dead, .dead, .dead, .dead, .dead, .dead, .dead, .dead], []⟩
def laws_eqBufS.xs4 : List XS := [⟨.exit 0, [], ⟨[.dead, .dead, .dead, .dead, .dead, .dead, .dead, .dead, .dead, .dead, .dead, .dead, .dead, .dead, .dead, .dead, .dead, .dead, .dead, .dead, .dead, .dead, .dead, .dead, .dead, .dead, .dead], []⟩⟩, ⟨.ret, [4], ⟨[.dead, .dead, .dead, .dead, .pv .bool, .dead, .dead, .dead, .dead, .dead, .dead, .dead, .dead, .dead, .dead, .dead, .dead, .dead, .dead, .dead, .dead, .dead, .dead, .dead, .dead, .dead, .dead], []⟩⟩]
noncomputable def laws_eqBufS.con (N : Nat) : Con := { modes := [.v, .v], ptrs := [false], fn := fun ds k => match ds with | [d0, d1] => castDm (.sl 27 (.pair (.sl 2 (.int .i64)) (.pair (.int .i64) (.pair (.int .i64) .unit)))) .imm d0 fun x0 => castDm (.sl 27 (.pair (.sl 2 (.int .i64)) (.pair (.int .i64) (.pair (.int .i64) .unit)))) .imm d1 fun x1 => bindO (laws_eqBufS N x0 x1) fun r => k [⟨.bool, .imm, r⟩] [] | _ => none }
noncomputable def laws_eqBufS.cfg (N : Nat) : Cfg := { ty := tys, keep := [25], flt := [], elm := [(22, (.own .imm)), (23, (.own .imm)), (24, (.own (.own .imm))), (25, (.own .imm)), (26, (.pr (.own .imm) .imm)), (27, (.pr (.own .imm) .imm)), (28, (.pr (.own (.own .imm)) .imm)), (29, (.pr (.own (.own .imm)) .imm)), (30, (.own (.pr (.own .imm) .imm))), (31, (.pr (.own (.pr (.own .imm) .imm)) (.pr (.own (.pr (.own .imm) .imm)) .imm))), (32, (.pr (.own (.pr (.own .imm) .imm)) (.pr (.own (.pr (.own .imm) .imm)) .imm))), (33, (.pr (.own (.own .imm)) (.pr .imm (.pr (.own .imm) .imm)))), (34, (.pr (.own (.own .imm)) (.pr .imm (.pr (.own .imm) .imm)))), (35, (.pr (.own .imm) (.pr (.own .imm) (.pr (.own (.own .imm)) (.pr (.pr (.own .imm) .imm) (.pr (.pr (.own (.own .imm)) .imm) (.pr (.pr (.own (.pr (.own .imm) .imm)) (.pr (.own (.pr (.own .imm) .imm)) .imm)) (.pr (.pr (.own (.own .imm)) (.pr .imm (.pr (.own .imm) .imm))) (.pr .imm (.pr .imm (.pr .imm (.pr .imm (.pr .imm (.pr (.own (.own .imm)) .imm)))))))))))))), (36, (.pr (.own .imm) (.pr (.own .imm) (.pr (.own (.own .imm)) (.pr (.pr (.own .imm) .imm) (.pr (.pr (.own (.own .imm)) .imm) (.pr (.pr (.own (.pr (.own .imm) .imm)) (.pr (.own (.pr (.own .imm) .imm)) .imm)) (.pr (.pr (.own (.own .imm)) (.pr .imm (.pr (.own .imm) .imm))) (.pr .imm (.pr .imm (.pr .imm (.pr .imm (.pr .imm (.pr (.own (.own .imm)) .imm)))))))))))))), (66, (.own .imm))], live := [(4, [0, 1, 5])], ord := [(6, [0, 1, 2, 3, 4, 5, 6, 7, 8, 9])], con := [((12, [.one, .one]), laws_eqBuf.con N)], loops := [(4, loopCon N laws_eqBufS.sk4 laws_eqBufS.xs4 (fun {R} => laws_eqBufS.l4 (R := R) N))], joins := [] }
theorem laws_eqBufS.cons (N : Nat) : ConsOk Try.prog (laws_eqBufS.cfg N).con := (consOk_cons (hb12) (laws_eqBuf.ok N) (laws_eqBuf.det N) consOk_nil)
theorem laws_eqBufS.h4 {R : Type} (N : Nat) (d : laws_eqBufS.sk4.D) (kn : laws_eqBufS.sk4.D → Option R) (kx : XD laws_eqBufS.xs4 → Option R) : roundK (laws_eqBufS.cfg N) N (nthLoop (fnBody Try.f33) 0) laws_eqBufS.sk4 laws_eqBufS.xs4 d kn kx = laws_eqBufS.l4 N d kn kx := by kernel_rfl
theorem laws_eqBufS.i4 (N : Nat) : LoopsOk Try.prog (laws_eqBufS.cfg N) (nthLoop (fnBody Try.f33) 0) := loopsL (l := []) (by kernel_rfl) trivial
theorem laws_eqBufS.o4 (N : Nat) : LoopOk Try.prog (nthLoop (fnBody Try.f33) 0) (loopCon N laws_eqBufS.sk4 laws_eqBufS.xs4 (fun {R} => laws_eqBufS.l4 (R := R) N)) := loop_ok (g := laws_eqBufS.cfg N) tys_ok (laws_eqBufS.cons N) mixed (laws_eqBufS.i4 N) (fun d kn kx => laws_eqBufS.h4 N d kn kx)
theorem laws_eqBufS.ls (N : Nat) : LoopsOk Try.prog (laws_eqBufS.cfg N) (fnBody Try.f33) := loopsL (l := [nthLoop (fnBody Try.f33) 0]) (by kernel_rfl) ⟨loopOne (L0 := loopCon N laws_eqBufS.sk4 laws_eqBufS.xs4 (fun {R} => laws_eqBufS.l4 (R := R) N)) (id := 4) (by kernel_rfl) (by kernel_rfl) (laws_eqBufS.o4 N), trivial⟩
theorem laws_eqBufS.q4 {R R' : Type} {N n : Nat} {d} {k} {g : R → Option R'} : bindF (loopP (laws_eqBufS.l4 N) n d k) g = loopP (laws_eqBufS.l4 N) n d fun e => bindF (k e) g := bindF_loopP (fun d kn kx => by simp only [laws_eqBufS.l4, bindF_ifB, bindF_bindO, bindF_pure, bindF_none, bindF_onSum]) n d k
theorem laws_eqBufS.b (N : Nat) (x0 : den (.sl 27 (.pair (.sl 2 (.int .i64)) (.pair (.int .i64) (.pair (.int .i64) .unit))))) (x1 : den (.sl 27 (.pair (.sl 2 (.int .i64)) (.pair (.int .i64) (.pair (.int .i64) .unit))))) : body (laws_eqBufS.cfg N) N Try.f33 [.one, .one] [.v, .v] [(false, .imm)] [⟨(.sl 27 (.pair (.sl 2 (.int .i64)) (.pair (.int .i64) (.pair (.int .i64) .unit)))), .imm, x0⟩, ⟨(.sl 27 (.pair (.sl 2 (.int .i64)) (.pair (.int .i64) (.pair (.int .i64) .unit)))), .imm, x1⟩] (fun r i => some (r, i)) = bindO (laws_eqBufS N x0 x1) fun r => some ([⟨.bool, .imm, r⟩], []) := by
  show _ = bindF _ _
  conv => rhs; simp only [laws_eqBufS, bindF_ifB, bindF_bindO, bindF_pure, bindF_none, bindF_onSum, laws_eqBufS.q4]
  kernel_rfl
theorem laws_eqBufS.ok (N : Nat) : ConOk Try.prog 33 [.one, .one] (laws_eqBufS.con N) := by
  refine conOk_mk (g := laws_eqBufS.cfg N) (N := N) (res := [(false, .imm)]) tys_ok (laws_eqBufS.cons N) mixed Try.func33 (laws_eqBufS.ls N) rfl rfl ?_
  intro ds R k y h
  cases ds with
  | nil => exact none_some h
  | cons d0 ds =>
  cases ds with
  | nil => exact none_some h
  | cons d1 ds =>
  cases ds with
  | cons _ _ => exact none_some h
  | nil =>
  have h0 : (castDm (.sl 27 (.pair (.sl 2 (.int .i64)) (.pair (.int .i64) (.pair (.int .i64) .unit)))) .imm d0 fun x0 => castDm (.sl 27 (.pair (.sl 2 (.int .i64)) (.pair (.int .i64) (.pair (.int .i64) .unit)))) .imm d1 fun x1 => bindO (laws_eqBufS N x0 x1) fun r => k [⟨.bool, .imm, r⟩] []) = some y := h
  clear h
  obtain ⟨x0, rfl, h1⟩ := castDm_eq h0
  obtain ⟨x1, rfl, h2⟩ := castDm_eq h1
  exact con_fin (laws_eqBufS.b N x0 x1) h2
theorem laws_eqBufS.det (N : Nat) : ConDet (laws_eqBufS.con N) := by
  intro ds R k y h
  cases ds with
  | nil => exact none_some h
  | cons d0 ds =>
  cases ds with
  | nil => exact none_some h
  | cons d1 ds =>
  cases ds with
  | cons _ _ => exact none_some h
  | nil =>
  have h0 : (castDm (.sl 27 (.pair (.sl 2 (.int .i64)) (.pair (.int .i64) (.pair (.int .i64) .unit)))) .imm d0 fun x0 => castDm (.sl 27 (.pair (.sl 2 (.int .i64)) (.pair (.int .i64) (.pair (.int .i64) .unit)))) .imm d1 fun x1 => bindO (laws_eqBufS N x0 x1) fun r => k [⟨.bool, .imm, r⟩] []) = some y := h
  clear h
  obtain ⟨x0, rfl, h1⟩ := castDm_eq h0
  obtain ⟨x1, rfl, h2⟩ := castDm_eq h1
  obtain ⟨r, e, h⟩ := bindO_some h2
  refine ⟨_, _, h, fun k' => ?_⟩
  show (castDm (.sl 27 (.pair (.sl 2 (.int .i64)) (.pair (.int .i64) (.pair (.int .i64) .unit)))) .imm (⟨(.sl 27 (.pair (.sl 2 (.int .i64)) (.pair (.int .i64) (.pair (.int .i64) .unit)))), .imm, x0⟩ : Dy) fun x0 => castDm (.sl 27 (.pair (.sl 2 (.int .i64)) (.pair (.int .i64) (.pair (.int .i64) .unit)))) .imm (⟨(.sl 27 (.pair (.sl 2 (.int .i64)) (.pair (.int .i64) (.pair (.int .i64) .unit)))), .imm, x1⟩ : Dy) fun x1 => bindO (laws_eqBufS N x0 x1) fun r => k' [⟨.bool, .imm, r⟩] []) = _
  simp only [castDm_self]
  rw [e]
  rfl
noncomputable def laws_eqUndo.con (N : Nat) : Con := { modes := [.v, .v], ptrs := [false], fn := fun ds k => match ds with | [d0, d1] => castDm (.pair (.sl 27 (.pair (.sl 2 (.int .i64)) (.pair (.int .i64) (.pair (.int .i64) .unit)))) (.pair (.sl 27 (.pair (.sl 2 (.int .i64)) (.pair (.int .i64) (.pair (.int .i64) .unit)))) .unit)) .imm d0 fun x0 => castDm (.pair (.sl 27 (.pair (.sl 2 (.int .i64)) (.pair (.int .i64) (.pair (.int .i64) .unit)))) (.pair (.sl 27 (.pair (.sl 2 (.int .i64)) (.pair (.int .i64) (.pair (.int .i64) .unit)))) .unit)) .imm d1 fun x1 => bindO (laws_eqUndo N x0 x1) fun r => k [⟨.bool, .imm, r⟩] [] | _ => none }
noncomputable def laws_eqUndo.cfg (N : Nat) : Cfg := { ty := tys, keep := [9, 15], flt := [], elm := [(22, (.own .imm)), (23, (.own .imm)), (24, (.own (.own .imm))), (25, (.own .imm)), (26, (.pr (.own .imm) .imm)), (27, (.pr (.own .imm) .imm)), (28, (.pr (.own (.own .imm)) .imm)), (29, (.pr (.own (.own .imm)) .imm)), (30, (.own (.pr (.own .imm) .imm))), (31, (.pr (.own (.pr (.own .imm) .imm)) (.pr (.own (.pr (.own .imm) .imm)) .imm))), (32, (.pr (.own (.pr (.own .imm) .imm)) (.pr (.own (.pr (.own .imm) .imm)) .imm))), (33, (.pr (.own (.own .imm)) (.pr .imm (.pr (.own .imm) .imm)))), (34, (.pr (.own (.own .imm)) (.pr .imm (.pr (.own .imm) .imm)))), (35, (.pr (.own .imm) (.pr (.own .imm) (.pr (.own (.own .imm)) (.pr (.pr (.own .imm) .imm) (.pr (.pr (.own (.own .imm)) .imm) (.pr (.pr (.own (.pr (.own .imm) .imm)) (.pr (.own (.pr (.own .imm) .imm)) .imm)) (.pr (.pr (.own (.own .imm)) (.pr .imm (.pr (.own .imm) .imm))) (.pr .imm (.pr .imm (.pr .imm (.pr .imm (.pr .imm (.pr (.own (.own .imm)) .imm)))))))))))))), (36, (.pr (.own .imm) (.pr (.own .imm) (.pr (.own (.own .imm)) (.pr (.pr (.own .imm) .imm) (.pr (.pr (.own (.own .imm)) .imm) (.pr (.pr (.own (.pr (.own .imm) .imm)) (.pr (.own (.pr (.own .imm) .imm)) .imm)) (.pr (.pr (.own (.own .imm)) (.pr .imm (.pr (.own .imm) .imm))) (.pr .imm (.pr .imm (.pr .imm (.pr .imm (.pr .imm (.pr (.own (.own .imm)) .imm)))))))))))))), (66, (.own .imm))], live := [], ord := [], con := [((33, [.one, .one]), laws_eqBufS.con N)], loops := [], joins := [] }
theorem laws_eqUndo.cons (N : Nat) : ConsOk Try.prog (laws_eqUndo.cfg N).con := (consOk_cons (hb33) (laws_eqBufS.ok N) (laws_eqBufS.det N) consOk_nil)
theorem laws_eqUndo.ls (N : Nat) : LoopsOk Try.prog (laws_eqUndo.cfg N) (fnBody Try.f14) := loopsL (l := []) (by kernel_rfl) trivial
theorem laws_eqUndo.b (N : Nat) (x0 : den (.pair (.sl 27 (.pair (.sl 2 (.int .i64)) (.pair (.int .i64) (.pair (.int .i64) .unit)))) (.pair (.sl 27 (.pair (.sl 2 (.int .i64)) (.pair (.int .i64) (.pair (.int .i64) .unit)))) .unit))) (x1 : den (.pair (.sl 27 (.pair (.sl 2 (.int .i64)) (.pair (.int .i64) (.pair (.int .i64) .unit)))) (.pair (.sl 27 (.pair (.sl 2 (.int .i64)) (.pair (.int .i64) (.pair (.int .i64) .unit)))) .unit))) : body (laws_eqUndo.cfg N) N Try.f14 [.one, .one] [.v, .v] [(false, .imm)] [⟨(.pair (.sl 27 (.pair (.sl 2 (.int .i64)) (.pair (.int .i64) (.pair (.int .i64) .unit)))) (.pair (.sl 27 (.pair (.sl 2 (.int .i64)) (.pair (.int .i64) (.pair (.int .i64) .unit)))) .unit)), .imm, x0⟩, ⟨(.pair (.sl 27 (.pair (.sl 2 (.int .i64)) (.pair (.int .i64) (.pair (.int .i64) .unit)))) (.pair (.sl 27 (.pair (.sl 2 (.int .i64)) (.pair (.int .i64) (.pair (.int .i64) .unit)))) .unit)), .imm, x1⟩] (fun r i => some (r, i)) = bindO (laws_eqUndo N x0 x1) fun r => some ([⟨.bool, .imm, r⟩], []) := by
  show _ = bindF _ _
  conv => rhs; simp only [laws_eqUndo, bindF_ifB, bindF_bindO, bindF_pure, bindF_none, bindF_onSum]
  kernel_rfl
theorem laws_eqUndo.ok (N : Nat) : ConOk Try.prog 14 [.one, .one] (laws_eqUndo.con N) := by
  refine conOk_mk (g := laws_eqUndo.cfg N) (N := N) (res := [(false, .imm)]) tys_ok (laws_eqUndo.cons N) mixed Try.func14 (laws_eqUndo.ls N) rfl rfl ?_
  intro ds R k y h
  cases ds with
  | nil => exact none_some h
  | cons d0 ds =>
  cases ds with
  | nil => exact none_some h
  | cons d1 ds =>
  cases ds with
  | cons _ _ => exact none_some h
  | nil =>
  have h0 : (castDm (.pair (.sl 27 (.pair (.sl 2 (.int .i64)) (.pair (.int .i64) (.pair (.int .i64) .unit)))) (.pair (.sl 27 (.pair (.sl 2 (.int .i64)) (.pair (.int .i64) (.pair (.int .i64) .unit)))) .unit)) .imm d0 fun x0 => castDm (.pair (.sl 27 (.pair (.sl 2 (.int .i64)) (.pair (.int .i64) (.pair (.int .i64) .unit)))) (.pair (.sl 27 (.pair (.sl 2 (.int .i64)) (.pair (.int .i64) (.pair (.int .i64) .unit)))) .unit)) .imm d1 fun x1 => bindO (laws_eqUndo N x0 x1) fun r => k [⟨.bool, .imm, r⟩] []) = some y := h
  clear h
  obtain ⟨x0, rfl, h1⟩ := castDm_eq h0
  obtain ⟨x1, rfl, h2⟩ := castDm_eq h1
  exact con_fin (laws_eqUndo.b N x0 x1) h2
theorem laws_eqUndo.det (N : Nat) : ConDet (laws_eqUndo.con N) := by
  intro ds R k y h
  cases ds with
  | nil => exact none_some h
  | cons d0 ds =>
  cases ds with
  | nil => exact none_some h
  | cons d1 ds =>
  cases ds with
  | cons _ _ => exact none_some h
  | nil =>
  have h0 : (castDm (.pair (.sl 27 (.pair (.sl 2 (.int .i64)) (.pair (.int .i64) (.pair (.int .i64) .unit)))) (.pair (.sl 27 (.pair (.sl 2 (.int .i64)) (.pair (.int .i64) (.pair (.int .i64) .unit)))) .unit)) .imm d0 fun x0 => castDm (.pair (.sl 27 (.pair (.sl 2 (.int .i64)) (.pair (.int .i64) (.pair (.int .i64) .unit)))) (.pair (.sl 27 (.pair (.sl 2 (.int .i64)) (.pair (.int .i64) (.pair (.int .i64) .unit)))) .unit)) .imm d1 fun x1 => bindO (laws_eqUndo N x0 x1) fun r => k [⟨.bool, .imm, r⟩] []) = some y := h
  clear h
  obtain ⟨x0, rfl, h1⟩ := castDm_eq h0
  obtain ⟨x1, rfl, h2⟩ := castDm_eq h1
  obtain ⟨r, e, h⟩ := bindO_some h2
  refine ⟨_, _, h, fun k' => ?_⟩
  show (castDm (.pair (.sl 27 (.pair (.sl 2 (.int .i64)) (.pair (.int .i64) (.pair (.int .i64) .unit)))) (.pair (.sl 27 (.pair (.sl 2 (.int .i64)) (.pair (.int .i64) (.pair (.int .i64) .unit)))) .unit)) .imm (⟨(.pair (.sl 27 (.pair (.sl 2 (.int .i64)) (.pair (.int .i64) (.pair (.int .i64) .unit)))) (.pair (.sl 27 (.pair (.sl 2 (.int .i64)) (.pair (.int .i64) (.pair (.int .i64) .unit)))) .unit)), .imm, x0⟩ : Dy) fun x0 => castDm (.pair (.sl 27 (.pair (.sl 2 (.int .i64)) (.pair (.int .i64) (.pair (.int .i64) .unit)))) (.pair (.sl 27 (.pair (.sl 2 (.int .i64)) (.pair (.int .i64) (.pair (.int .i64) .unit)))) .unit)) .imm (⟨(.pair (.sl 27 (.pair (.sl 2 (.int .i64)) (.pair (.int .i64) (.pair (.int .i64) .unit)))) (.pair (.sl 27 (.pair (.sl 2 (.int .i64)) (.pair (.int .i64) (.pair (.int .i64) .unit)))) .unit)), .imm, x1⟩ : Dy) fun x1 => bindO (laws_eqUndo N x0 x1) fun r => k' [⟨.bool, .imm, r⟩] []) = _
  simp only [castDm_self]
  rw [e]
  rfl
end Go.AE.F
