/- The printed functions are what the program comes to: contracts. -/
import Derived.Test.YtfddioheppeddaaLUndoAllL2
namespace Go.AE.F
open Go.AE Go.Proofs
set_option maxRecDepth 100000
def slices_IndexFunc_S_Sint64__Sint64__impl_UndoRun_c1.sk2 : Skel := ⟨[.pv (.sl 23 (.sl 2 (.int .i64))), .fn 24 [], .dead, .dead, .dead, .dead, .dead, .pv (.int .i64), .pv (.int .i64), .dead, .dead, .dead, .dead, .dead, .dead, .dead, .dead, .dead, .dead], []⟩
def slices_IndexFunc_S_Sint64__Sint64__impl_UndoRun_c1.xs2 : List XS := [⟨.exit 0, [], ⟨[.dead, .dead, .dead, .dead, .dead, .dead, .dead, .dead, .dead, .dead, .dead, .dead, .dead, .dead, .dead, .dead, .dead, .dead, .dead], []⟩⟩, ⟨.ret, [4], ⟨[.dead, .dead, .dead, .dead, .pv (.int .i64), .dead, .dead, .dead, .dead, .dead, .dead, .dead, .dead, .dead, .dead, .dead, .dead, .dead, .dead], []⟩⟩]
noncomputable def slices_IndexFunc_S_Sint64__Sint64__impl_UndoRun_c1.con (N : Nat) : Con := { modes := [.v], ptrs := [false], fn := fun ds k => match ds with | [d0] => castDm (.sl 23 (.sl 2 (.int .i64))) .imm d0 fun x0 => bindO (slices_IndexFunc_S_Sint64__Sint64__impl_UndoRun_c1 N x0) fun r => k [⟨(.int .i64), .imm, r⟩] [] | _ => none }
noncomputable def slices_IndexFunc_S_Sint64__Sint64__impl_UndoRun_c1.cfg (N : Nat) : Cfg := { ty := tys, keep := [16], flt := [], elm := [(22, (.own .imm)), (23, (.own .imm)), (24, (.pr (.own .imm) .imm)), (25, (.pr (.own .imm) .imm)), (26, (.own (.own .imm))), (29, (.own (.pr (.own .imm) .imm))), (30, (.pr (.own (.pr (.own .imm) .imm)) (.pr (.own (.pr (.own .imm) .imm)) .imm))), (31, (.pr (.own (.pr (.own .imm) .imm)) (.pr (.own (.pr (.own .imm) .imm)) .imm))), (32, (.pr (.pr (.own (.pr (.own .imm) .imm)) (.pr (.own (.pr (.own .imm) .imm)) .imm)) (.pr (.pr (.own .imm) .imm) .imm))), (33, (.pr (.pr (.own (.pr (.own .imm) .imm)) (.pr (.own (.pr (.own .imm) .imm)) .imm)) (.pr (.pr (.own .imm) .imm) .imm))), (44, (.pr (.own .imm) .imm)), (45, (.pr (.own .imm) .imm)), (52, (.pr (.pr (.own .imm) .imm) (.pr (.own .imm) .imm))), (53, (.pr (.pr (.own .imm) .imm) (.pr (.own .imm) .imm)))], live := [(2, [0, 1, 7, 8])], ord := [], con := [((24, [.one]), impl_UndoRun_c1.con N)], loops := [(2, loopCon N slices_IndexFunc_S_Sint64__Sint64__impl_UndoRun_c1.sk2 slices_IndexFunc_S_Sint64__Sint64__impl_UndoRun_c1.xs2 (fun {R} => slices_IndexFunc_S_Sint64__Sint64__impl_UndoRun_c1.l2 (R := R) N))], joins := [] }
theorem slices_IndexFunc_S_Sint64__Sint64__impl_UndoRun_c1.cons (N : Nat) : ConsOk Try.prog (slices_IndexFunc_S_Sint64__Sint64__impl_UndoRun_c1.cfg N).con := (consOk_cons (hb24) (impl_UndoRun_c1.ok N) (impl_UndoRun_c1.det N) consOk_nil)
theorem slices_IndexFunc_S_Sint64__Sint64__impl_UndoRun_c1.h2 {R : Type} (N : Nat) (d : slices_IndexFunc_S_Sint64__Sint64__impl_UndoRun_c1.sk2.D) (kn : slices_IndexFunc_S_Sint64__Sint64__impl_UndoRun_c1.sk2.D → Option R) (kx : XD slices_IndexFunc_S_Sint64__Sint64__impl_UndoRun_c1.xs2 → Option R) : roundK (slices_IndexFunc_S_Sint64__Sint64__impl_UndoRun_c1.cfg N) N (nthLoop (fnBody Try.f40) 0) slices_IndexFunc_S_Sint64__Sint64__impl_UndoRun_c1.sk2 slices_IndexFunc_S_Sint64__Sint64__impl_UndoRun_c1.xs2 d kn kx = slices_IndexFunc_S_Sint64__Sint64__impl_UndoRun_c1.l2 N d kn kx := by kernel_rfl
theorem slices_IndexFunc_S_Sint64__Sint64__impl_UndoRun_c1.i2 (N : Nat) : LoopsOk Try.prog (slices_IndexFunc_S_Sint64__Sint64__impl_UndoRun_c1.cfg N) (nthLoop (fnBody Try.f40) 0) := loopsL (l := []) (by kernel_rfl) trivial
theorem slices_IndexFunc_S_Sint64__Sint64__impl_UndoRun_c1.o2 (N : Nat) : LoopOk Try.prog (nthLoop (fnBody Try.f40) 0) (loopCon N slices_IndexFunc_S_Sint64__Sint64__impl_UndoRun_c1.sk2 slices_IndexFunc_S_Sint64__Sint64__impl_UndoRun_c1.xs2 (fun {R} => slices_IndexFunc_S_Sint64__Sint64__impl_UndoRun_c1.l2 (R := R) N)) := loop_ok (g := slices_IndexFunc_S_Sint64__Sint64__impl_UndoRun_c1.cfg N) tys_ok (slices_IndexFunc_S_Sint64__Sint64__impl_UndoRun_c1.cons N) mixed (slices_IndexFunc_S_Sint64__Sint64__impl_UndoRun_c1.i2 N) (fun d kn kx => slices_IndexFunc_S_Sint64__Sint64__impl_UndoRun_c1.h2 N d kn kx)
theorem slices_IndexFunc_S_Sint64__Sint64__impl_UndoRun_c1.ls (N : Nat) : LoopsOk Try.prog (slices_IndexFunc_S_Sint64__Sint64__impl_UndoRun_c1.cfg N) (fnBody Try.f40) := loopsL (l := [nthLoop (fnBody Try.f40) 0]) (by kernel_rfl) ⟨loopOne (L0 := loopCon N slices_IndexFunc_S_Sint64__Sint64__impl_UndoRun_c1.sk2 slices_IndexFunc_S_Sint64__Sint64__impl_UndoRun_c1.xs2 (fun {R} => slices_IndexFunc_S_Sint64__Sint64__impl_UndoRun_c1.l2 (R := R) N)) (id := 2) (by kernel_rfl) (by kernel_rfl) (slices_IndexFunc_S_Sint64__Sint64__impl_UndoRun_c1.o2 N), trivial⟩
theorem slices_IndexFunc_S_Sint64__Sint64__impl_UndoRun_c1.q2 {R R' : Type} {N n : Nat} {d} {k} {g : R → Option R'} : bindF (loopP (slices_IndexFunc_S_Sint64__Sint64__impl_UndoRun_c1.l2 N) n d k) g = loopP (slices_IndexFunc_S_Sint64__Sint64__impl_UndoRun_c1.l2 N) n d fun e => bindF (k e) g := bindF_loopP (fun d kn kx => by simp only [slices_IndexFunc_S_Sint64__Sint64__impl_UndoRun_c1.l2, bindF_ifB, bindF_bindO, bindF_pure, bindF_none, bindF_onSum]) n d k
theorem slices_IndexFunc_S_Sint64__Sint64__impl_UndoRun_c1.b (N : Nat) (x0 : den (.sl 23 (.sl 2 (.int .i64)))) : body (slices_IndexFunc_S_Sint64__Sint64__impl_UndoRun_c1.cfg N) N Try.f40 [.one, .fn 24 0] [.v] [(false, .imm)] [⟨(.sl 23 (.sl 2 (.int .i64))), .imm, x0⟩] (fun r i => some (r, i)) = bindO (slices_IndexFunc_S_Sint64__Sint64__impl_UndoRun_c1 N x0) fun r => some ([⟨(.int .i64), .imm, r⟩], []) := by
  show _ = bindF _ _
  conv => rhs; simp only [slices_IndexFunc_S_Sint64__Sint64__impl_UndoRun_c1, bindF_ifB, bindF_bindO, bindF_pure, bindF_none, bindF_onSum, slices_IndexFunc_S_Sint64__Sint64__impl_UndoRun_c1.q2]
  kernel_rfl
theorem slices_IndexFunc_S_Sint64__Sint64__impl_UndoRun_c1.ok (N : Nat) : ConOk Try.prog 40 [.one, .fn 24 0] (slices_IndexFunc_S_Sint64__Sint64__impl_UndoRun_c1.con N) := by
  refine conOk_mk (g := slices_IndexFunc_S_Sint64__Sint64__impl_UndoRun_c1.cfg N) (N := N) (res := [(false, .imm)]) tys_ok (slices_IndexFunc_S_Sint64__Sint64__impl_UndoRun_c1.cons N) mixed Try.func40 (slices_IndexFunc_S_Sint64__Sint64__impl_UndoRun_c1.ls N) rfl rfl ?_
  intro ds R k y h
  cases ds with
  | nil => exact none_some h
  | cons d0 ds =>
  cases ds with
  | cons _ _ => exact none_some h
  | nil =>
  have h0 : (castDm (.sl 23 (.sl 2 (.int .i64))) .imm d0 fun x0 => bindO (slices_IndexFunc_S_Sint64__Sint64__impl_UndoRun_c1 N x0) fun r => k [⟨(.int .i64), .imm, r⟩] []) = some y := h
  clear h
  obtain ⟨x0, rfl, h1⟩ := castDm_eq h0
  exact con_fin (slices_IndexFunc_S_Sint64__Sint64__impl_UndoRun_c1.b N x0) h1
theorem slices_IndexFunc_S_Sint64__Sint64__impl_UndoRun_c1.det (N : Nat) : ConDet (slices_IndexFunc_S_Sint64__Sint64__impl_UndoRun_c1.con N) := by
  intro ds R k y h
  cases ds with
  | nil => exact none_some h
  | cons d0 ds =>
  cases ds with
  | cons _ _ => exact none_some h
  | nil =>
  have h0 : (castDm (.sl 23 (.sl 2 (.int .i64))) .imm d0 fun x0 => bindO (slices_IndexFunc_S_Sint64__Sint64__impl_UndoRun_c1 N x0) fun r => k [⟨(.int .i64), .imm, r⟩] []) = some y := h
  clear h
  obtain ⟨x0, rfl, h1⟩ := castDm_eq h0
  obtain ⟨r, e, h⟩ := bindO_some h1
  refine ⟨_, _, h, fun k' => ?_⟩
  show (castDm (.sl 23 (.sl 2 (.int .i64))) .imm (⟨(.sl 23 (.sl 2 (.int .i64))), .imm, x0⟩ : Dy) fun x0 => bindO (slices_IndexFunc_S_Sint64__Sint64__impl_UndoRun_c1 N x0) fun r => k' [⟨(.int .i64), .imm, r⟩] []) = _
  simp only [castDm_self]
  rw [e]
  rfl
noncomputable def slices_ContainsFunc_S_Sint64__Sint64__impl_UndoRun_c1.con (N : Nat) : Con := { modes := [.v], ptrs := [false], fn := fun ds k => match ds with | [d0] => castDm (.sl 23 (.sl 2 (.int .i64))) .imm d0 fun x0 => bindO (slices_ContainsFunc_S_Sint64__Sint64__impl_UndoRun_c1 N x0) fun r => k [⟨.bool, .imm, r⟩] [] | _ => none }
noncomputable def slices_ContainsFunc_S_Sint64__Sint64__impl_UndoRun_c1.cfg (N : Nat) : Cfg := { ty := tys, keep := [7], flt := [], elm := [(22, (.own .imm)), (23, (.own .imm)), (24, (.pr (.own .imm) .imm)), (25, (.pr (.own .imm) .imm)), (26, (.own (.own .imm))), (29, (.own (.pr (.own .imm) .imm))), (30, (.pr (.own (.pr (.own .imm) .imm)) (.pr (.own (.pr (.own .imm) .imm)) .imm))), (31, (.pr (.own (.pr (.own .imm) .imm)) (.pr (.own (.pr (.own .imm) .imm)) .imm))), (32, (.pr (.pr (.own (.pr (.own .imm) .imm)) (.pr (.own (.pr (.own .imm) .imm)) .imm)) (.pr (.pr (.own .imm) .imm) .imm))), (33, (.pr (.pr (.own (.pr (.own .imm) .imm)) (.pr (.own (.pr (.own .imm) .imm)) .imm)) (.pr (.pr (.own .imm) .imm) .imm))), (44, (.pr (.own .imm) .imm)), (45, (.pr (.own .imm) .imm)), (52, (.pr (.pr (.own .imm) .imm) (.pr (.own .imm) .imm))), (53, (.pr (.pr (.own .imm) .imm) (.pr (.own .imm) .imm)))], live := [], ord := [], con := [((40, [.one, .fn 24 0]), slices_IndexFunc_S_Sint64__Sint64__impl_UndoRun_c1.con N)], loops := [], joins := [] }
theorem slices_ContainsFunc_S_Sint64__Sint64__impl_UndoRun_c1.cons (N : Nat) : ConsOk Try.prog (slices_ContainsFunc_S_Sint64__Sint64__impl_UndoRun_c1.cfg N).con := (consOk_cons (hb40) (slices_IndexFunc_S_Sint64__Sint64__impl_UndoRun_c1.ok N) (slices_IndexFunc_S_Sint64__Sint64__impl_UndoRun_c1.det N) consOk_nil)
theorem slices_ContainsFunc_S_Sint64__Sint64__impl_UndoRun_c1.ls (N : Nat) : LoopsOk Try.prog (slices_ContainsFunc_S_Sint64__Sint64__impl_UndoRun_c1.cfg N) (fnBody Try.f23) := loopsL (l := []) (by kernel_rfl) trivial
theorem slices_ContainsFunc_S_Sint64__Sint64__impl_UndoRun_c1.b (N : Nat) (x0 : den (.sl 23 (.sl 2 (.int .i64)))) : body (slices_ContainsFunc_S_Sint64__Sint64__impl_UndoRun_c1.cfg N) N Try.f23 [.one, .fn 24 0] [.v] [(false, .imm)] [⟨(.sl 23 (.sl 2 (.int .i64))), .imm, x0⟩] (fun r i => some (r, i)) = bindO (slices_ContainsFunc_S_Sint64__Sint64__impl_UndoRun_c1 N x0) fun r => some ([⟨.bool, .imm, r⟩], []) := by
  show _ = bindF _ _
  conv => rhs; simp only [slices_ContainsFunc_S_Sint64__Sint64__impl_UndoRun_c1, bindF_ifB, bindF_bindO, bindF_pure, bindF_none, bindF_onSum]
  kernel_rfl
theorem slices_ContainsFunc_S_Sint64__Sint64__impl_UndoRun_c1.ok (N : Nat) : ConOk Try.prog 23 [.one, .fn 24 0] (slices_ContainsFunc_S_Sint64__Sint64__impl_UndoRun_c1.con N) := by
  refine conOk_mk (g := slices_ContainsFunc_S_Sint64__Sint64__impl_UndoRun_c1.cfg N) (N := N) (res := [(false, .imm)]) tys_ok (slices_ContainsFunc_S_Sint64__Sint64__impl_UndoRun_c1.cons N) mixed Try.func23 (slices_ContainsFunc_S_Sint64__Sint64__impl_UndoRun_c1.ls N) rfl rfl ?_
  intro ds R k y h
  cases ds with
  | nil => exact none_some h
  | cons d0 ds =>
  cases ds with
  | cons _ _ => exact none_some h
  | nil =>
  have h0 : (castDm (.sl 23 (.sl 2 (.int .i64))) .imm d0 fun x0 => bindO (slices_ContainsFunc_S_Sint64__Sint64__impl_UndoRun_c1 N x0) fun r => k [⟨.bool, .imm, r⟩] []) = some y := h
  clear h
  obtain ⟨x0, rfl, h1⟩ := castDm_eq h0
  exact con_fin (slices_ContainsFunc_S_Sint64__Sint64__impl_UndoRun_c1.b N x0) h1
theorem slices_ContainsFunc_S_Sint64__Sint64__impl_UndoRun_c1.det (N : Nat) : ConDet (slices_ContainsFunc_S_Sint64__Sint64__impl_UndoRun_c1.con N) := by
  intro ds R k y h
  cases ds with
  | nil => exact none_some h
  | cons d0 ds =>
  cases ds with
  | cons _ _ => exact none_some h
  | nil =>
  have h0 : (castDm (.sl 23 (.sl 2 (.int .i64))) .imm d0 fun x0 => bindO (slices_ContainsFunc_S_Sint64__Sint64__impl_UndoRun_c1 N x0) fun r => k [⟨.bool, .imm, r⟩] []) = some y := h
  clear h
  obtain ⟨x0, rfl, h1⟩ := castDm_eq h0
  obtain ⟨r, e, h⟩ := bindO_some h1
  refine ⟨_, _, h, fun k' => ?_⟩
  show (castDm (.sl 23 (.sl 2 (.int .i64))) .imm (⟨(.sl 23 (.sl 2 (.int .i64))), .imm, x0⟩ : Dy) fun x0 => bindO (slices_ContainsFunc_S_Sint64__Sint64__impl_UndoRun_c1 N x0) fun r => k' [⟨.bool, .imm, r⟩] []) = _
  simp only [castDm_self]
  rw [e]
  rfl
noncomputable def slices_Clone_Sint64_int64.con (N : Nat) : Con := { modes := [.v], ptrs := [false], fn := fun ds k => match ds with | [d0] => castDm (.sl 2 (.int .i64)) .imm d0 fun x0 => bindO (slices_Clone_Sint64_int64 N x0) fun r => k [⟨(.sl 2 (.int .i64)), (.own .imm), r⟩] [] | _ => none }
noncomputable def slices_Clone_Sint64_int64.cfg (N : Nat) : Cfg := { ty := tys, keep := [], flt := [], elm := [(22, (.own .imm)), (23, (.own .imm)), (24, (.pr (.own .imm) .imm)), (25, (.pr (.own .imm) .imm)), (26, (.own (.own .imm))), (29, (.own (.pr (.own .imm) .imm))), (30, (.pr (.own (.pr (.own .imm) .imm)) (.pr (.own (.pr (.own .imm) .imm)) .imm))), (31, (.pr (.own (.pr (.own .imm) .imm)) (.pr (.own (.pr (.own .imm) .imm)) .imm))), (32, (.pr (.pr (.own (.pr (.own .imm) .imm)) (.pr (.own (.pr (.own .imm) .imm)) .imm)) (.pr (.pr (.own .imm) .imm) .imm))), (33, (.pr (.pr (.own (.pr (.own .imm) .imm)) (.pr (.own (.pr (.own .imm) .imm)) .imm)) (.pr (.pr (.own .imm) .imm) .imm))), (44, (.pr (.own .imm) .imm)), (45, (.pr (.own .imm) .imm)), (52, (.pr (.pr (.own .imm) .imm) (.pr (.own .imm) .imm))), (53, (.pr (.pr (.own .imm) .imm) (.pr (.own .imm) .imm)))], live := [], ord := [], con := [], loops := [], joins := [] }
theorem slices_Clone_Sint64_int64.cons (N : Nat) : ConsOk Try.prog (slices_Clone_Sint64_int64.cfg N).con := consOk_nil
theorem slices_Clone_Sint64_int64.ls (N : Nat) : LoopsOk Try.prog (slices_Clone_Sint64_int64.cfg N) (fnBody Try.f44) := loopsL (l := []) (by kernel_rfl) trivial
theorem slices_Clone_Sint64_int64.pu {R : Type} (N : Nat) (x0 : den (.sl 2 (.int .i64))) (f : _ → Option R) : Psh (slices_Clone_Sint64_int64 N x0) (slices_Clone_Sint64_int64.g N x0 f) f := by
  unfold slices_Clone_Sint64_int64 slices_Clone_Sint64_int64.g
  repeat' (first | exact psh_pure | exact psh_none | refine psh_ifB ?_ ?_ | refine psh_same ?_ ?_ | refine psh_bindO fun _ => ?_)
theorem slices_Clone_Sint64_int64.b (N : Nat) (x0 : den (.sl 2 (.int .i64))) : body (slices_Clone_Sint64_int64.cfg N) N Try.f44 [.one] [.v] [(false, (.own .imm))] [⟨(.sl 2 (.int .i64)), .imm, x0⟩] (fun r i => some (r, i)) = slices_Clone_Sint64_int64.g N x0 fun r => some ([⟨(.sl 2 (.int .i64)), (.own .imm), r⟩], []) := by kernel_rfl
theorem slices_Clone_Sint64_int64.ok (N : Nat) : ConOk Try.prog 44 [.one] (slices_Clone_Sint64_int64.con N) := by
  refine conOk_mk (g := slices_Clone_Sint64_int64.cfg N) (N := N) (res := [(false, (.own .imm))]) tys_ok (slices_Clone_Sint64_int64.cons N) mixed Try.func44 (slices_Clone_Sint64_int64.ls N) rfl rfl ?_
  intro ds R k y h
  cases ds with
  | nil => exact none_some h
  | cons d0 ds =>
  cases ds with
  | cons _ _ => exact none_some h
  | nil =>
  have h0 : (castDm (.sl 2 (.int .i64)) .imm d0 fun x0 => bindO (slices_Clone_Sint64_int64 N x0) fun r => k [⟨(.sl 2 (.int .i64)), (.own .imm), r⟩] []) = some y := h
  clear h
  obtain ⟨x0, rfl, h1⟩ := castDm_eq h0
  exact con_fin' (slices_Clone_Sint64_int64.b N x0) (slices_Clone_Sint64_int64.pu N x0 _) h1
theorem slices_Clone_Sint64_int64.det (N : Nat) : ConDet (slices_Clone_Sint64_int64.con N) := by
  intro ds R k y h
  cases ds with
  | nil => exact none_some h
  | cons d0 ds =>
  cases ds with
  | cons _ _ => exact none_some h
  | nil =>
  have h0 : (castDm (.sl 2 (.int .i64)) .imm d0 fun x0 => bindO (slices_Clone_Sint64_int64 N x0) fun r => k [⟨(.sl 2 (.int .i64)), (.own .imm), r⟩] []) = some y := h
  clear h
  obtain ⟨x0, rfl, h1⟩ := castDm_eq h0
  obtain ⟨r, e, h⟩ := bindO_some h1
  refine ⟨_, _, h, fun k' => ?_⟩
  show (castDm (.sl 2 (.int .i64)) .imm (⟨(.sl 2 (.int .i64)), .imm, x0⟩ : Dy) fun x0 => bindO (slices_Clone_Sint64_int64 N x0) fun r => k' [⟨(.sl 2 (.int .i64)), (.own .imm), r⟩] []) = _
  simp only [castDm_self]
  rw [e]
  rfl
noncomputable def impl_ownBuf.con (N : Nat) : Con := { modes := [.v], ptrs := [false], fn := fun ds k => match ds with | [d0] => castDm (.pair (.sl 2 (.int .i64)) (.pair (.int .i64) (.pair (.int .i64) .unit))) .imm d0 fun x0 => bindO (impl_ownBuf N x0) fun r => k [⟨(.pair (.sl 2 (.int .i64)) (.pair (.int .i64) (.pair (.int .i64) .unit))), (.pr (.own .imm) .imm), r⟩] [] | _ => none }
noncomputable def impl_ownBuf.cfg (N : Nat) : Cfg := { ty := tys, keep := [5], flt := [], elm := [(22, (.own .imm)), (23, (.own .imm)), (24, (.pr (.own .imm) .imm)), (25, (.pr (.own .imm) .imm)), (26, (.own (.own .imm))), (29, (.own (.pr (.own .imm) .imm))), (30, (.pr (.own (.pr (.own .imm) .imm)) (.pr (.own (.pr (.own .imm) .imm)) .imm))), (31, (.pr (.own (.pr (.own .imm) .imm)) (.pr (.own (.pr (.own .imm) .imm)) .imm))), (32, (.pr (.pr (.own (.pr (.own .imm) .imm)) (.pr (.own (.pr (.own .imm) .imm)) .imm)) (.pr (.pr (.own .imm) .imm) .imm))), (33, (.pr (.pr (.own (.pr (.own .imm) .imm)) (.pr (.own (.pr (.own .imm) .imm)) .imm)) (.pr (.pr (.own .imm) .imm) .imm))), (44, (.pr (.own .imm) .imm)), (45, (.pr (.own .imm) .imm)), (52, (.pr (.pr (.own .imm) .imm) (.pr (.own .imm) .imm))), (53, (.pr (.pr (.own .imm) .imm) (.pr (.own .imm) .imm)))], live := [], ord := [(1, [0, 1, 3, 4, 5, 6, 2, 7, 8])], con := [((44, [.one]), slices_Clone_Sint64_int64.con N)], loops := [], joins := [] }
theorem impl_ownBuf.cons (N : Nat) : ConsOk Try.prog (impl_ownBuf.cfg N).con := (consOk_cons (hb44) (slices_Clone_Sint64_int64.ok N) (slices_Clone_Sint64_int64.det N) consOk_nil)
theorem impl_ownBuf.ls (N : Nat) : LoopsOk Try.prog (impl_ownBuf.cfg N) (fnBody Try.f26) := loopsL (l := []) (by kernel_rfl) trivial
theorem impl_ownBuf.b (N : Nat) (x0 : den (.pair (.sl 2 (.int .i64)) (.pair (.int .i64) (.pair (.int .i64) .unit)))) : body (impl_ownBuf.cfg N) N Try.f26 [.one] [.v] [(false, (.pr (.own .imm) .imm))] [⟨(.pair (.sl 2 (.int .i64)) (.pair (.int .i64) (.pair (.int .i64) .unit))), .imm, x0⟩] (fun r i => some (r, i)) = bindO (impl_ownBuf N x0) fun r => some ([⟨(.pair (.sl 2 (.int .i64)) (.pair (.int .i64) (.pair (.int .i64) .unit))), (.pr (.own .imm) .imm), r⟩], []) := by
  show _ = bindF _ _
  conv => rhs; simp only [impl_ownBuf, bindF_ifB, bindF_bindO, bindF_pure, bindF_none, bindF_onSum]
  kernel_rfl
theorem impl_ownBuf.ok (N : Nat) : ConOk Try.prog 26 [.one] (impl_ownBuf.con N) := by
  refine conOk_mk (g := impl_ownBuf.cfg N) (N := N) (res := [(false, (.pr (.own .imm) .imm))]) tys_ok (impl_ownBuf.cons N) mixed Try.func26 (impl_ownBuf.ls N) rfl rfl ?_
  intro ds R k y h
  cases ds with
  | nil => exact none_some h
  | cons d0 ds =>
  cases ds with
  | cons _ _ => exact none_some h
  | nil =>
  have h0 : (castDm (.pair (.sl 2 (.int .i64)) (.pair (.int .i64) (.pair (.int .i64) .unit))) .imm d0 fun x0 => bindO (impl_ownBuf N x0) fun r => k [⟨(.pair (.sl 2 (.int .i64)) (.pair (.int .i64) (.pair (.int .i64) .unit))), (.pr (.own .imm) .imm), r⟩] []) = some y := h
  clear h
  obtain ⟨x0, rfl, h1⟩ := castDm_eq h0
  exact con_fin (impl_ownBuf.b N x0) h1
theorem impl_ownBuf.det (N : Nat) : ConDet (impl_ownBuf.con N) := by
  intro ds R k y h
  cases ds with
  | nil => exact none_some h
  | cons d0 ds =>
  cases ds with
  | cons _ _ => exact none_some h
  | nil =>
  have h0 : (castDm (.pair (.sl 2 (.int .i64)) (.pair (.int .i64) (.pair (.int .i64) .unit))) .imm d0 fun x0 => bindO (impl_ownBuf N x0) fun r => k [⟨(.pair (.sl 2 (.int .i64)) (.pair (.int .i64) (.pair (.int .i64) .unit))), (.pr (.own .imm) .imm), r⟩] []) = some y := h
  clear h
  obtain ⟨x0, rfl, h1⟩ := castDm_eq h0
  obtain ⟨r, e, h⟩ := bindO_some h1
  refine ⟨_, _, h, fun k' => ?_⟩
  show (castDm (.pair (.sl 2 (.int .i64)) (.pair (.int .i64) (.pair (.int .i64) .unit))) .imm (⟨(.pair (.sl 2 (.int .i64)) (.pair (.int .i64) (.pair (.int .i64) .unit))), .imm, x0⟩ : Dy) fun x0 => bindO (impl_ownBuf N x0) fun r => k' [⟨(.pair (.sl 2 (.int .i64)) (.pair (.int .i64) (.pair (.int .i64) .unit))), (.pr (.own .imm) .imm), r⟩] []) = _
  simp only [castDm_self]
  rw [e]
  rfl
noncomputable def impl_areBufs_c1.con (N : Nat) : Con := { modes := [.v], ptrs := [false], fn := fun ds k => match ds with | [d0] => castDm (.pair (.sl 2 (.int .i64)) (.pair (.int .i64) (.pair (.int .i64) .unit))) .imm d0 fun x0 => bindO (impl_areBufs_c1 N x0) fun r => k [⟨.bool, .imm, r⟩] [] | _ => none }
noncomputable def impl_areBufs_c1.cfg (N : Nat) : Cfg := { ty := tys, keep := [4], flt := [], elm := [(22, (.own .imm)), (23, (.own .imm)), (24, (.pr (.own .imm) .imm)), (25, (.pr (.own .imm) .imm)), (26, (.own (.own .imm))), (29, (.own (.pr (.own .imm) .imm))), (30, (.pr (.own (.pr (.own .imm) .imm)) (.pr (.own (.pr (.own .imm) .imm)) .imm))), (31, (.pr (.own (.pr (.own .imm) .imm)) (.pr (.own (.pr (.own .imm) .imm)) .imm))), (32, (.pr (.pr (.own (.pr (.own .imm) .imm)) (.pr (.own (.pr (.own .imm) .imm)) .imm)) (.pr (.pr (.own .imm) .imm) .imm))), (33, (.pr (.pr (.own (.pr (.own .imm) .imm)) (.pr (.own (.pr (.own .imm) .imm)) .imm)) (.pr (.pr (.own .imm) .imm) .imm))), (44, (.pr (.own .imm) .imm)), (45, (.pr (.own .imm) .imm)), (52, (.pr (.pr (.own .imm) .imm) (.pr (.own .imm) .imm))), (53, (.pr (.pr (.own .imm) .imm) (.pr (.own .imm) .imm)))], live := [], ord := [], con := [((22, [.one]), impl_BufRight.con N)], loops := [], joins := [] }
theorem impl_areBufs_c1.cons (N : Nat) : ConsOk Try.prog (impl_areBufs_c1.cfg N).con := (consOk_cons (hb22) (impl_BufRight.ok N) (impl_BufRight.det N) consOk_nil)
theorem impl_areBufs_c1.ls (N : Nat) : LoopsOk Try.prog (impl_areBufs_c1.cfg N) (fnBody Try.f59) := loopsL (l := []) (by kernel_rfl) trivial
theorem impl_areBufs_c1.b (N : Nat) (x0 : den (.pair (.sl 2 (.int .i64)) (.pair (.int .i64) (.pair (.int .i64) .unit)))) : body (impl_areBufs_c1.cfg N) N Try.f59 [.one] [.v] [(false, .imm)] [⟨(.pair (.sl 2 (.int .i64)) (.pair (.int .i64) (.pair (.int .i64) .unit))), .imm, x0⟩] (fun r i => some (r, i)) = bindO (impl_areBufs_c1 N x0) fun r => some ([⟨.bool, .imm, r⟩], []) := by
  show _ = bindF _ _
  conv => rhs; simp only [impl_areBufs_c1, bindF_ifB, bindF_bindO, bindF_pure, bindF_none, bindF_onSum]
  kernel_rfl
theorem impl_areBufs_c1.ok (N : Nat) : ConOk Try.prog 59 [.one] (impl_areBufs_c1.con N) := by
  refine conOk_mk (g := impl_areBufs_c1.cfg N) (N := N) (res := [(false, .imm)]) tys_ok (impl_areBufs_c1.cons N) mixed Try.func59 (impl_areBufs_c1.ls N) rfl rfl ?_
  intro ds R k y h
  cases ds with
  | nil => exact none_some h
  | cons d0 ds =>
  cases ds with
  | cons _ _ => exact none_some h
  | nil =>
  have h0 : (castDm (.pair (.sl 2 (.int .i64)) (.pair (.int .i64) (.pair (.int .i64) .unit))) .imm d0 fun x0 => bindO (impl_areBufs_c1 N x0) fun r => k [⟨.bool, .imm, r⟩] []) = some y := h
  clear h
  obtain ⟨x0, rfl, h1⟩ := castDm_eq h0
  exact con_fin (impl_areBufs_c1.b N x0) h1
theorem impl_areBufs_c1.det (N : Nat) : ConDet (impl_areBufs_c1.con N) := by
  intro ds R k y h
  cases ds with
  | nil => exact none_some h
  | cons d0 ds =>
  cases ds with
  | cons _ _ => exact none_some h
  | nil =>
  have h0 : (castDm (.pair (.sl 2 (.int .i64)) (.pair (.int .i64) (.pair (.int .i64) .unit))) .imm d0 fun x0 => bindO (impl_areBufs_c1 N x0) fun r => k [⟨.bool, .imm, r⟩] []) = some y := h
  clear h
  obtain ⟨x0, rfl, h1⟩ := castDm_eq h0
  obtain ⟨r, e, h⟩ := bindO_some h1
  refine ⟨_, _, h, fun k' => ?_⟩
  show (castDm (.pair (.sl 2 (.int .i64)) (.pair (.int .i64) (.pair (.int .i64) .unit))) .imm (⟨(.pair (.sl 2 (.int .i64)) (.pair (.int .i64) (.pair (.int .i64) .unit))), .imm, x0⟩ : Dy) fun x0 => bindO (impl_areBufs_c1 N x0) fun r => k' [⟨.bool, .imm, r⟩] []) = _
  simp only [castDm_self]
  rw [e]
  rfl
def slices_IndexFunc_Simpl_Buf_impl_Buf__impl_areBufs_c1.sk2 : Skel := ⟨[.pv (.sl 25 (.pair (.sl 2 (.int .i64)) (.pair (.int .i64) (.pair (.int .i64) .unit)))), .fn 59 [], .dead, .dead, .dead, .dead, .dead, .pv (.int .i64), .pv (.int .i64), .dead, .dead, .dead, .dead, .dead, .dead, .dead, .dead, .dead, .dead], []⟩
def slices_IndexFunc_Simpl_Buf_impl_Buf__impl_areBufs_c1.xs2 : List XS := [⟨.exit 0, [], ⟨[.dead, .dead, .dead, .dead, .dead, .dead, .dead, .dead, .dead, .dead, .dead, .dead, .dead, .dead, .dead, .dead, .dead, .dead, .dead], []⟩⟩, ⟨.ret, [4], ⟨[.dead, .dead, .dead, .dead, .pv (.int .i64), .dead, .dead, .dead, .dead, .dead, .dead, .dead, .dead, .dead, .dead, .dead, .dead, .dead, .dead], []⟩⟩]
noncomputable def slices_IndexFunc_Simpl_Buf_impl_Buf__impl_areBufs_c1.con (N : Nat) : Con := { modes := [.v], ptrs := [false], fn := fun ds k => match ds with | [d0] => castDm (.sl 25 (.pair (.sl 2 (.int .i64)) (.pair (.int .i64) (.pair (.int .i64) .unit)))) .imm d0 fun x0 => bindO (slices_IndexFunc_Simpl_Buf_impl_Buf__impl_areBufs_c1 N x0) fun r => k [⟨(.int .i64), .imm, r⟩] [] | _ => none }
noncomputable def slices_IndexFunc_Simpl_Buf_impl_Buf__impl_areBufs_c1.cfg (N : Nat) : Cfg := { ty := tys, keep := [16], flt := [], elm := [(22, (.own .imm)), (23, (.own .imm)), (24, (.pr (.own .imm) .imm)), (25, (.pr (.own .imm) .imm)), (26, (.own (.own .imm))), (29, (.own (.pr (.own .imm) .imm))), (30, (.pr (.own (.pr (.own .imm) .imm)) (.pr (.own (.pr (.own .imm) .imm)) .imm))), (31, (.pr (.own (.pr (.own .imm) .imm)) (.pr (.own (.pr (.own .imm) .imm)) .imm))), (32, (.pr (.pr (.own (.pr (.own .imm) .imm)) (.pr (.own (.pr (.own .imm) .imm)) .imm)) (.pr (.pr (.own .imm) .imm) .imm))), (33, (.pr (.pr (.own (.pr (.own .imm) .imm)) (.pr (.own (.pr (.own .imm) .imm)) .imm)) (.pr (.pr (.own .imm) .imm) .imm))), (44, (.pr (.own .imm) .imm)), (45, (.pr (.own .imm) .imm)), (52, (.pr (.pr (.own .imm) .imm) (.pr (.own .imm) .imm))), (53, (.pr (.pr (.own .imm) .imm) (.pr (.own .imm) .imm)))], live := [(2, [0, 1, 7, 8])], ord := [], con := [((59, [.one]), impl_areBufs_c1.con N)], loops := [(2, loopCon N slices_IndexFunc_Simpl_Buf_impl_Buf__impl_areBufs_c1.sk2 slices_IndexFunc_Simpl_Buf_impl_Buf__impl_areBufs_c1.xs2 (fun {R} => slices_IndexFunc_Simpl_Buf_impl_Buf__impl_areBufs_c1.l2 (R := R) N))], joins := [] }
theorem slices_IndexFunc_Simpl_Buf_impl_Buf__impl_areBufs_c1.cons (N : Nat) : ConsOk Try.prog (slices_IndexFunc_Simpl_Buf_impl_Buf__impl_areBufs_c1.cfg N).con := (consOk_cons (hb59) (impl_areBufs_c1.ok N) (impl_areBufs_c1.det N) consOk_nil)
theorem slices_IndexFunc_Simpl_Buf_impl_Buf__impl_areBufs_c1.h2 {R : Type} (N : Nat) (d : slices_IndexFunc_Simpl_Buf_impl_Buf__impl_areBufs_c1.sk2.D) (kn : slices_IndexFunc_Simpl_Buf_impl_Buf__impl_areBufs_c1.sk2.D → Option R) (kx : XD slices_IndexFunc_Simpl_Buf_impl_Buf__impl_areBufs_c1.xs2 → Option R) : roundK (slices_IndexFunc_Simpl_Buf_impl_Buf__impl_areBufs_c1.cfg N) N (nthLoop (fnBody Try.f60) 0) slices_IndexFunc_Simpl_Buf_impl_Buf__impl_areBufs_c1.sk2 slices_IndexFunc_Simpl_Buf_impl_Buf__impl_areBufs_c1.xs2 d kn kx = slices_IndexFunc_Simpl_Buf_impl_Buf__impl_areBufs_c1.l2 N d kn kx := by kernel_rfl
theorem slices_IndexFunc_Simpl_Buf_impl_Buf__impl_areBufs_c1.i2 (N : Nat) : LoopsOk Try.prog (slices_IndexFunc_Simpl_Buf_impl_Buf__impl_areBufs_c1.cfg N) (nthLoop (fnBody Try.f60) 0) := loopsL (l := []) (by kernel_rfl) trivial
theorem slices_IndexFunc_Simpl_Buf_impl_Buf__impl_areBufs_c1.o2 (N : Nat) : LoopOk Try.prog (nthLoop (fnBody Try.f60) 0) (loopCon N slices_IndexFunc_Simpl_Buf_impl_Buf__impl_areBufs_c1.sk2 slices_IndexFunc_Simpl_Buf_impl_Buf__impl_areBufs_c1.xs2 (fun {R} => slices_IndexFunc_Simpl_Buf_impl_Buf__impl_areBufs_c1.l2 (R := R) N)) := loop_ok (g := slices_IndexFunc_Simpl_Buf_impl_Buf__impl_areBufs_c1.cfg N) tys_ok (slices_IndexFunc_Simpl_Buf_impl_Buf__impl_areBufs_c1.cons N) mixed (slices_IndexFunc_Simpl_Buf_impl_Buf__impl_areBufs_c1.i2 N) (fun d kn kx => slices_IndexFunc_Simpl_Buf_impl_Buf__impl_areBufs_c1.h2 N d kn kx)
theorem slices_IndexFunc_Simpl_Buf_impl_Buf__impl_areBufs_c1.ls (N : Nat) : LoopsOk Try.prog (slices_IndexFunc_Simpl_Buf_impl_Buf__impl_areBufs_c1.cfg N) (fnBody Try.f60) := loopsL (l := [nthLoop (fnBody Try.f60) 0]) (by kernel_rfl) ⟨loopOne (L0 := loopCon N slices_IndexFunc_Simpl_Buf_impl_Buf__impl_areBufs_c1.sk2 slices_IndexFunc_Simpl_Buf_impl_Buf__impl_areBufs_c1.xs2 (fun {R} => slices_IndexFunc_Simpl_Buf_impl_Buf__impl_areBufs_c1.l2 (R := R) N)) (id := 2) (by kernel_rfl) (by kernel_rfl) (slices_IndexFunc_Simpl_Buf_impl_Buf__impl_areBufs_c1.o2 N), trivial⟩
theorem slices_IndexFunc_Simpl_Buf_impl_Buf__impl_areBufs_c1.q2 {R R' : Type} {N n : Nat} {d} {k} {g : R → Option R'} : bindF (loopP (slices_IndexFunc_Simpl_Buf_impl_Buf__impl_areBufs_c1.l2 N) n d k) g = loopP (slices_IndexFunc_Simpl_Buf_impl_Buf__impl_areBufs_c1.l2 N) n d fun e => bindF (k e) g := bindF_loopP (fun d kn kx => by simp only [slices_IndexFunc_Simpl_Buf_impl_Buf__impl_areBufs_c1.l2, bindF_ifB, bindF_bindO, bindF_pure, bindF_none, bindF_onSum]) n d k
theorem slices_IndexFunc_Simpl_Buf_impl_Buf__impl_areBufs_c1.b (N : Nat) (x0 : den (.sl 25 (.pair (.sl 2 (.int .i64)) (.pair (.int .i64) (.pair (.int .i64) .unit))))) : body (slices_IndexFunc_Simpl_Buf_impl_Buf__impl_areBufs_c1.cfg N) N Try.f60 [.one, .fn 59 0] [.v] [(false, .imm)] [⟨(.sl 25 (.pair (.sl 2 (.int .i64)) (.pair (.int .i64) (.pair (.int .i64) .unit)))), .imm, x0⟩] (fun r i => some (r, i)) = bindO (slices_IndexFunc_Simpl_Buf_impl_Buf__impl_areBufs_c1 N x0) fun r => some ([⟨(.int .i64), .imm, r⟩], []) := by
  show _ = bindF _ _
  conv => rhs; simp only [slices_IndexFunc_Simpl_Buf_impl_Buf__impl_areBufs_c1, bindF_ifB, bindF_bindO, bindF_pure, bindF_none, bindF_onSum, slices_IndexFunc_Simpl_Buf_impl_Buf__impl_areBufs_c1.q2]
  kernel_rfl
theorem slices_IndexFunc_Simpl_Buf_impl_Buf__impl_areBufs_c1.ok (N : Nat) : ConOk Try.prog 60 [.one, .fn 59 0] (slices_IndexFunc_Simpl_Buf_impl_Buf__impl_areBufs_c1.con N) := by
  refine conOk_mk (g := slices_IndexFunc_Simpl_Buf_impl_Buf__impl_areBufs_c1.cfg N) (N := N) (res := [(false, .imm)]) tys_ok (slices_IndexFunc_Simpl_Buf_impl_Buf__impl_areBufs_c1.cons N) mixed Try.func60 (slices_IndexFunc_Simpl_Buf_impl_Buf__impl_areBufs_c1.ls N) rfl rfl ?_
  intro ds R k y h
  cases ds with
  | nil => exact none_some h
  | cons d0 ds =>
  cases ds with
  | cons _ _ => exact none_some h
  | nil =>
  have h0 : (castDm (.sl 25 (.pair (.sl 2 (.int .i64)) (.pair (.int .i64) (.pair (.int .i64) .unit)))) .imm d0 fun x0 => bindO (slices_IndexFunc_Simpl_Buf_impl_Buf__impl_areBufs_c1 N x0) fun r => k [⟨(.int .i64), .imm, r⟩] []) = some y := h
  clear h
  obtain ⟨x0, rfl, h1⟩ := castDm_eq h0
  exact con_fin (slices_IndexFunc_Simpl_Buf_impl_Buf__impl_areBufs_c1.b N x0) h1
theorem slices_IndexFunc_Simpl_Buf_impl_Buf__impl_areBufs_c1.det (N : Nat) : ConDet (slices_IndexFunc_Simpl_Buf_impl_Buf__impl_areBufs_c1.con N) := by
  intro ds R k y h
  cases ds with
  | nil => exact none_some h
  | cons d0 ds =>
  cases ds with
  | cons _ _ => exact none_some h
  | nil =>
  have h0 : (castDm (.sl 25 (.pair (.sl 2 (.int .i64)) (.pair (.int .i64) (.pair (.int .i64) .unit)))) .imm d0 fun x0 => bindO (slices_IndexFunc_Simpl_Buf_impl_Buf__impl_areBufs_c1 N x0) fun r => k [⟨(.int .i64), .imm, r⟩] []) = some y := h
  clear h
  obtain ⟨x0, rfl, h1⟩ := castDm_eq h0
  obtain ⟨r, e, h⟩ := bindO_some h1
  refine ⟨_, _, h, fun k' => ?_⟩
  show (castDm (.sl 25 (.pair (.sl 2 (.int .i64)) (.pair (.int .i64) (.pair (.int .i64) .unit)))) .imm (⟨(.sl 25 (.pair (.sl 2 (.int .i64)) (.pair (.int .i64) (.pair (.int .i64) .unit)))), .imm, x0⟩ : Dy) fun x0 => bindO (slices_IndexFunc_Simpl_Buf_impl_Buf__impl_areBufs_c1 N x0) fun r => k' [⟨(.int .i64), .imm, r⟩] []) = _
  simp only [castDm_self]
  rw [e]
  rfl
noncomputable def slices_ContainsFunc_Simpl_Buf_impl_Buf__impl_areBufs_c1.con (N : Nat) : Con := { modes := [.v], ptrs := [false], fn := fun ds k => match ds with | [d0] => castDm (.sl 25 (.pair (.sl 2 (.int .i64)) (.pair (.int .i64) (.pair (.int .i64) .unit)))) .imm d0 fun x0 => bindO (slices_ContainsFunc_Simpl_Buf_impl_Buf__impl_areBufs_c1 N x0) fun r => k [⟨.bool, .imm, r⟩] [] | _ => none }
noncomputable def slices_ContainsFunc_Simpl_Buf_impl_Buf__impl_areBufs_c1.cfg (N : Nat) : Cfg := { ty := tys, keep := [7], flt := [], elm := [(22, (.own .imm)), (23, (.own .imm)), (24, (.pr (.own .imm) .imm)), (25, (.pr (.own .imm) .imm)), (26, (.own (.own .imm))), (29, (.own (.pr (.own .imm) .imm))), (30, (.pr (.own (.pr (.own .imm) .imm)) (.pr (.own (.pr (.own .imm) .imm)) .imm))), (31, (.pr (.own (.pr (.own .imm) .imm)) (.pr (.own (.pr (.own .imm) .imm)) .imm))), (32, (.pr (.pr (.own (.pr (.own .imm) .imm)) (.pr (.own (.pr (.own .imm) .imm)) .imm)) (.pr (.pr (.own .imm) .imm) .imm))), (33, (.pr (.pr (.own (.pr (.own .imm) .imm)) (.pr (.own (.pr (.own .imm) .imm)) .imm)) (.pr (.pr (.own .imm) .imm) .imm))), (44, (.pr (.own .imm) .imm)), (45, (.pr (.own .imm) .imm)), (52, (.pr (.pr (.own .imm) .imm) (.pr (.own .imm) .imm))), (53, (.pr (.pr (.own .imm) .imm) (.pr (.own .imm) .imm)))], live := [], ord := [], con := [((60, [.one, .fn 59 0]), slices_IndexFunc_Simpl_Buf_impl_Buf__impl_areBufs_c1.con N)], loops := [], joins := [] }
theorem slices_ContainsFunc_Simpl_Buf_impl_Buf__impl_areBufs_c1.cons (N : Nat) : ConsOk Try.prog (slices_ContainsFunc_Simpl_Buf_impl_Buf__impl_areBufs_c1.cfg N).con := (consOk_cons (hb60) (slices_IndexFunc_Simpl_Buf_impl_Buf__impl_areBufs_c1.ok N) (slices_IndexFunc_Simpl_Buf_impl_Buf__impl_areBufs_c1.det N) consOk_nil)
theorem slices_ContainsFunc_Simpl_Buf_impl_Buf__impl_areBufs_c1.ls (N : Nat) : LoopsOk Try.prog (slices_ContainsFunc_Simpl_Buf_impl_Buf__impl_areBufs_c1.cfg N) (fnBody Try.f58) := loopsL (l := []) (by kernel_rfl) trivial
theorem slices_ContainsFunc_Simpl_Buf_impl_Buf__impl_areBufs_c1.b (N : Nat) (x0 : den (.sl 25 (.pair (.sl 2 (.int .i64)) (.pair (.int .i64) (.pair (.int .i64) .unit))))) : body (slices_ContainsFunc_Simpl_Buf_impl_Buf__impl_areBufs_c1.cfg N) N Try.f58 [.one, .fn 59 0] [.v] [(false, .imm)] [⟨(.sl 25 (.pair (.sl 2 (.int .i64)) (.pair (.int .i64) (.pair (.int .i64) .unit)))), .imm, x0⟩] (fun r i => some (r, i)) = bindO (slices_ContainsFunc_Simpl_Buf_impl_Buf__impl_areBufs_c1 N x0) fun r => some ([⟨.bool, .imm, r⟩], []) := by
  show _ = bindF _ _
  conv => rhs; simp only [slices_ContainsFunc_Simpl_Buf_impl_Buf__impl_areBufs_c1, bindF_ifB, bindF_bindO, bindF_pure, bindF_none, bindF_onSum]
  kernel_rfl
theorem slices_ContainsFunc_Simpl_Buf_impl_Buf__impl_areBufs_c1.ok (N : Nat) : ConOk Try.prog 58 [.one, .fn 59 0] (slices_ContainsFunc_Simpl_Buf_impl_Buf__impl_areBufs_c1.con N) := by
  refine conOk_mk (g := slices_ContainsFunc_Simpl_Buf_impl_Buf__impl_areBufs_c1.cfg N) (N := N) (res := [(false, .imm)]) tys_ok (slices_ContainsFunc_Simpl_Buf_impl_Buf__impl_areBufs_c1.cons N) mixed Try.func58 (slices_ContainsFunc_Simpl_Buf_impl_Buf__impl_areBufs_c1.ls N) rfl rfl ?_
  intro ds R k y h
  cases ds with
  | nil => exact none_some h
  | cons d0 ds =>
  cases ds with
  | cons _ _ => exact none_some h
  | nil =>
  have h0 : (castDm (.sl 25 (.pair (.sl 2 (.int .i64)) (.pair (.int .i64) (.pair (.int .i64) .unit)))) .imm d0 fun x0 => bindO (slices_ContainsFunc_Simpl_Buf_impl_Buf__impl_areBufs_c1 N x0) fun r => k [⟨.bool, .imm, r⟩] []) = some y := h
  clear h
  obtain ⟨x0, rfl, h1⟩ := castDm_eq h0
  exact con_fin (slices_ContainsFunc_Simpl_Buf_impl_Buf__impl_areBufs_c1.b N x0) h1
theorem slices_ContainsFunc_Simpl_Buf_impl_Buf__impl_areBufs_c1.det (N : Nat) : ConDet (slices_ContainsFunc_Simpl_Buf_impl_Buf__impl_areBufs_c1.con N) := by
  intro ds R k y h
  cases ds with
  | nil => exact none_some h
  | cons d0 ds =>
  cases ds with
  | cons _ _ => exact none_some h
  | nil =>
  have h0 : (castDm (.sl 25 (.pair (.sl 2 (.int .i64)) (.pair (.int .i64) (.pair (.int .i64) .unit)))) .imm d0 fun x0 => bindO (slices_ContainsFunc_Simpl_Buf_impl_Buf__impl_areBufs_c1 N x0) fun r => k [⟨.bool, .imm, r⟩] []) = some y := h
  clear h
  obtain ⟨x0, rfl, h1⟩ := castDm_eq h0
  obtain ⟨r, e, h⟩ := bindO_some h1
  refine ⟨_, _, h, fun k' => ?_⟩
  show (castDm (.sl 25 (.pair (.sl 2 (.int .i64)) (.pair (.int .i64) (.pair (.int .i64) .unit)))) .imm (⟨(.sl 25 (.pair (.sl 2 (.int .i64)) (.pair (.int .i64) (.pair (.int .i64) .unit)))), .imm, x0⟩ : Dy) fun x0 => bindO (slices_ContainsFunc_Simpl_Buf_impl_Buf__impl_areBufs_c1 N x0) fun r => k' [⟨.bool, .imm, r⟩] []) = _
  simp only [castDm_self]
  rw [e]
  rfl
noncomputable def impl_areBufs.con (N : Nat) : Con := { modes := [.v], ptrs := [false], fn := fun ds k => match ds with | [d0] => castDm (.sl 25 (.pair (.sl 2 (.int .i64)) (.pair (.int .i64) (.pair (.int .i64) .unit)))) .imm d0 fun x0 => bindO (impl_areBufs N x0) fun r => k [⟨.bool, .imm, r⟩] [] | _ => none }
noncomputable def impl_areBufs.cfg (N : Nat) : Cfg := { ty := tys, keep := [8], flt := [], elm := [(22, (.own .imm)), (23, (.own .imm)), (24, (.pr (.own .imm) .imm)), (25, (.pr (.own .imm) .imm)), (26, (.own (.own .imm))), (29, (.own (.pr (.own .imm) .imm))), (30, (.pr (.own (.pr (.own .imm) .imm)) (.pr (.own (.pr (.own .imm) .imm)) .imm))), (31, (.pr (.own (.pr (.own .imm) .imm)) (.pr (.own (.pr (.own .imm) .imm)) .imm))), (32, (.pr (.pr (.own (.pr (.own .imm) .imm)) (.pr (.own (.pr (.own .imm) .imm)) .imm)) (.pr (.pr (.own .imm) .imm) .imm))), (33, (.pr (.pr (.own (.pr (.own .imm) .imm)) (.pr (.own (.pr (.own .imm) .imm)) .imm)) (.pr (.pr (.own .imm) .imm) .imm))), (44, (.pr (.own .imm) .imm)), (45, (.pr (.own .imm) .imm)), (52, (.pr (.pr (.own .imm) .imm) (.pr (.own .imm) .imm))), (53, (.pr (.pr (.own .imm) .imm) (.pr (.own .imm) .imm)))], live := [], ord := [], con := [((58, [.one, .fn 59 0]), slices_ContainsFunc_Simpl_Buf_impl_Buf__impl_areBufs_c1.con N)], loops := [], joins := [] }
theorem impl_areBufs.cons (N : Nat) : ConsOk Try.prog (impl_areBufs.cfg N).con := (consOk_cons (hb58) (slices_ContainsFunc_Simpl_Buf_impl_Buf__impl_areBufs_c1.ok N) (slices_ContainsFunc_Simpl_Buf_impl_Buf__impl_areBufs_c1.det N) consOk_nil)
theorem impl_areBufs.ls (N : Nat) : LoopsOk Try.prog (impl_areBufs.cfg N) (fnBody Try.f56) := loopsL (l := []) (by kernel_rfl) trivial
theorem impl_areBufs.b (N : Nat) (x0 : den (.sl 25 (.pair (.sl 2 (.int .i64)) (.pair (.int .i64) (.pair (.int .i64) .unit))))) : body (impl_areBufs.cfg N) N Try.f56 [.one] [.v] [(false, .imm)] [⟨(.sl 25 (.pair (.sl 2 (.int .i64)) (.pair (.int .i64) (.pair (.int .i64) .unit)))), .imm, x0⟩] (fun r i => some (r, i)) = bindO (impl_areBufs N x0) fun r => some ([⟨.bool, .imm, r⟩], []) := by
  show _ = bindF _ _
  conv => rhs; simp only [impl_areBufs, bindF_ifB, bindF_bindO, bindF_pure, bindF_none, bindF_onSum]
  kernel_rfl
theorem impl_areBufs.ok (N : Nat) : ConOk Try.prog 56 [.one] (impl_areBufs.con N) := by
  refine conOk_mk (g := impl_areBufs.cfg N) (N := N) (res := [(false, .imm)]) tys_ok (impl_areBufs.cons N) mixed Try.func56 (impl_areBufs.ls N) rfl rfl ?_
  intro ds R k y h
  cases ds with
  | nil => exact none_some h
  | cons d0 ds =>
  cases ds with
  | cons _ _ => exact none_some h
  | nil =>
  have h0 : (castDm (.sl 25 (.pair (.sl 2 (.int .i64)) (.pair (.int .i64) (.pair (.int .i64) .unit)))) .imm d0 fun x0 => bindO (impl_areBufs N x0) fun r => k [⟨.bool, .imm, r⟩] []) = some y := h
  clear h
  obtain ⟨x0, rfl, h1⟩ := castDm_eq h0
  exact con_fin (impl_areBufs.b N x0) h1
theorem impl_areBufs.det (N : Nat) : ConDet (impl_areBufs.con N) := by
  intro ds R k y h
  cases ds with
  | nil => exact none_some h
  | cons d0 ds =>
  cases ds with
  | cons _ _ => exact none_some h
  | nil =>
  have h0 : (castDm (.sl 25 (.pair (.sl 2 (.int .i64)) (.pair (.int .i64) (.pair (.int .i64) .unit)))) .imm d0 fun x0 => bindO (impl_areBufs N x0) fun r => k [⟨.bool, .imm, r⟩] []) = some y := h
  clear h
  obtain ⟨x0, rfl, h1⟩ := castDm_eq h0
  obtain ⟨r, e, h⟩ := bindO_some h1
  refine ⟨_, _, h, fun k' => ?_⟩
  show (castDm (.sl 25 (.pair (.sl 2 (.int .i64)) (.pair (.int .i64) (.pair (.int .i64) .unit)))) .imm (⟨(.sl 25 (.pair (.sl 2 (.int .i64)) (.pair (.int .i64) (.pair (.int .i64) .unit)))), .imm, x0⟩ : Dy) fun x0 => bindO (impl_areBufs N x0) fun r => k' [⟨.bool, .imm, r⟩] []) = _
  simp only [castDm_self]
  rw [e]
  rfl
noncomputable def impl_UndoRight.con (N : Nat) : Con := { modes := [.v], ptrs := [false], fn := fun ds k => match ds with | [d0] => castDm (.pair (.sl 25 (.pair (.sl 2 (.int .i64)) (.pair (.int .i64) (.pair (.int .i64) .unit)))) (.pair (.sl 25 (.pair (.sl 2 (.int .i64)) (.pair (.int .i64) (.pair (.int .i64) .unit)))) .unit)) .imm d0 fun x0 => bindO (impl_UndoRight N x0) fun r => k [⟨.bool, .imm, r⟩] [] | _ => none }
noncomputable def impl_UndoRight.cfg (N : Nat) : Cfg := { ty := tys, keep := [5, 9], flt := [], elm := [(22, (.own .imm)), (23, (.own .imm)), (24, (.pr (.own .imm) .imm)), (25, (.pr (.own .imm) .imm)), (26, (.own (.own .imm))), (29, (.own (.pr (.own .imm) .imm))), (30, (.pr (.own (.pr (.own .imm) .imm)) (.pr (.own (.pr (.own .imm) .imm)) .imm))), (31, (.pr (.own (.pr (.own .imm) .imm)) (.pr (.own (.pr (.own .imm) .imm)) .imm))), (32, (.pr (.pr (.own (.pr (.own .imm) .imm)) (.pr (.own (.pr (.own .imm) .imm)) .imm)) (.pr (.pr (.own .imm) .imm) .imm))), (33, (.pr (.pr (.own (.pr (.own .imm) .imm)) (.pr (.own (.pr (.own .imm) .imm)) .imm)) (.pr (.pr (.own .imm) .imm) .imm))), (44, (.pr (.own .imm) .imm)), (45, (.pr (.own .imm) .imm)), (52, (.pr (.pr (.own .imm) .imm) (.pr (.own .imm) .imm))), (53, (.pr (.pr (.own .imm) .imm) (.pr (.own .imm) .imm)))], live := [], ord := [], con := [((56, [.one]), impl_areBufs.con N)], loops := [], joins := [] }
theorem impl_UndoRight.cons (N : Nat) : ConsOk Try.prog (impl_UndoRight.cfg N).con := (consOk_cons (hb56) (impl_areBufs.ok N) (impl_areBufs.det N) consOk_nil)
theorem impl_UndoRight.ls (N : Nat) : LoopsOk Try.prog (impl_UndoRight.cfg N) (fnBody Try.f45) := loopsL (l := []) (by kernel_rfl) trivial
theorem impl_UndoRight.b (N : Nat) (x0 : den (.pair (.sl 25 (.pair (.sl 2 (.int .i64)) (.pair (.int .i64) (.pair (.int .i64) .unit)))) (.pair (.sl 25 (.pair (.sl 2 (.int .i64)) (.pair (.int .i64) (.pair (.int .i64) .unit)))) .unit))) : body (impl_UndoRight.cfg N) N Try.f45 [.one] [.v] [(false, .imm)] [⟨(.pair (.sl 25 (.pair (.sl 2 (.int .i64)) (.pair (.int .i64) (.pair (.int .i64) .unit)))) (.pair (.sl 25 (.pair (.sl 2 (.int .i64)) (.pair (.int .i64) (.pair (.int .i64) .unit)))) .unit)), .imm, x0⟩] (fun r i => some (r, i)) = bindO (impl_UndoRight N x0) fun r => some ([⟨.bool, .imm, r⟩], []) := by
  show _ = bindF _ _
  conv => rhs; simp only [impl_UndoRight, bindF_ifB, bindF_bindO, bindF_pure, bindF_none, bindF_onSum]
  kernel_rfl
theorem impl_UndoRight.ok (N : Nat) : ConOk Try.prog 45 [.one] (impl_UndoRight.con N) := by
  refine conOk_mk (g := impl_UndoRight.cfg N) (N := N) (res := [(false, .imm)]) tys_ok (impl_UndoRight.cons N) mixed Try.func45 (impl_UndoRight.ls N) rfl rfl ?_
  intro ds R k y h
  cases ds with
  | nil => exact none_some h
  | cons d0 ds =>
  cases ds with
  | cons _ _ => exact none_some h
  | nil =>
  have h0 : (castDm (.pair (.sl 25 (.pair (.sl 2 (.int .i64)) (.pair (.int .i64) (.pair (.int .i64) .unit)))) (.pair (.sl 25 (.pair (.sl 2 (.int .i64)) (.pair (.int .i64) (.pair (.int .i64) .unit)))) .unit)) .imm d0 fun x0 => bindO (impl_UndoRight N x0) fun r => k [⟨.bool, .imm, r⟩] []) = some y := h
  clear h
  obtain ⟨x0, rfl, h1⟩ := castDm_eq h0
  exact con_fin (impl_UndoRight.b N x0) h1
theorem impl_UndoRight.det (N : Nat) : ConDet (impl_UndoRight.con N) := by
  intro ds R k y h
  cases ds with
  | nil => exact none_some h
  | cons d0 ds =>
  cases ds with
  | cons _ _ => exact none_some h
  | nil =>
  have h0 : (castDm (.pair (.sl 25 (.pair (.sl 2 (.int .i64)) (.pair (.int .i64) (.pair (.int .i64) .unit)))) (.pair (.sl 25 (.pair (.sl 2 (.int .i64)) (.pair (.int .i64) (.pair (.int .i64) .unit)))) .unit)) .imm d0 fun x0 => bindO (impl_UndoRight N x0) fun r => k [⟨.bool, .imm, r⟩] []) = some y := h
  clear h
  obtain ⟨x0, rfl, h1⟩ := castDm_eq h0
  obtain ⟨r, e, h⟩ := bindO_some h1
  refine ⟨_, _, h, fun k' => ?_⟩
  show (castDm (.pair (.sl 25 (.pair (.sl 2 (.int .i64)) (.pair (.int .i64) (.pair (.int .i64) .unit)))) (.pair (.sl 25 (.pair (.sl 2 (.int .i64)) (.pair (.int .i64) (.pair (.int .i64) .unit)))) .unit)) .imm (⟨(.pair (.sl 25 (.pair (.sl 2 (.int .i64)) (.pair (.int .i64) (.pair (.int .i64) .unit)))) (.pair (.sl 25 (.pair (.sl 2 (.int .i64)) (.pair (.int .i64) (.pair (.int .i64) .unit)))) .unit)), .imm, x0⟩ : Dy) fun x0 => bindO (impl_UndoRight N x0) fun r => k' [⟨.bool, .imm, r⟩] []) = _
  simp only [castDm_self]
  rw [e]
  rfl
def impl_ownBufs.sk3 : Skel := ⟨[.dead, .dead, .dead, .ov 50 [], .dead, .dead, .dead, .pv (.sl 25 (.pair (.sl 2 (.int .i64)) (.pair (.int .i64) (.pair (.int .i64) .unit)))), .pv (.int .i64), .pv (.int .i64), .dead, .dead, .dead, .dead, .dead, .dead, .dead, .dead, .dead, .dead], [⟨50, (.sl 25 (.pair (.sl 2 (.int .i64)) (.pair (.int .i64) (.pair (.int .i64) .unit)))), (.own (.pr (.own .imm) .imm)), false, false⟩]⟩
def impl_ownBufs.xs3 : List XS := [⟨.exit 0, [3], ⟨[.dead, .dead, .dead, .ov 50 [], .dead, .dead, .dead, .dead, .dead, .dead, .dead, .dead, .dead, .dead, .dead, .dead, .dead, .dead, .dead, .dead], [⟨50, (.sl 25 (.pair (.sl 2 (.int .i64)) (.pair (.int .i64) (.pair (.int .i64) .unit)))), (.own (.pr (.own .imm) .imm)), false, false⟩]⟩⟩]
noncomputable def impl_ownBufs.con (N : Nat) : Con := { modes := [.v], ptrs := [false], fn := fun ds k => match ds with | [d0] => castDm (.sl 25 (.pair (.sl 2 (.int .i64)) (.pair (.int .i64) (.pair (.int .i64) .unit)))) .imm d0 fun x0 => bindO (impl_ownBufs N x0) fun r => k [⟨(.sl 25 (.pair (.sl 2 (.int .i64)) (.pair (.int .i64) (.pair (.int .i64) .unit)))), (.own (.pr (.own .imm) .imm)), r⟩] [] | _ => none }
noncomputable def impl_ownBufs.cfg (N : Nat) : Cfg := { ty := tys, keep := [15], flt := [], elm := [(22, (.own .imm)), (23, (.own .imm)), (24, (.pr (.own .imm) .imm)), (25, (.pr (.own .imm) .imm)), (26, (.own (.own .imm))), (29, (.own (.pr (.own .imm) .imm))), (30, (.pr (.own (.pr (.own .imm) .imm)) (.pr (.own (.pr (.own .imm) .imm)) .imm))), (31, (.pr (.own (.pr (.own .imm) .imm)) (.pr (.own (.pr (.own .imm) .imm)) .imm))), (32, (.pr (.pr (.own (.pr (.own .imm) .imm)) (.pr (.own (.pr (.own .imm) .imm)) .imm)) (.pr (.pr (.own .imm) .imm) .imm))), (33, (.pr (.pr (.own (.pr (.own .imm) .imm)) (.pr (.own (.pr (.own .imm) .imm)) .imm)) (.pr (.pr (.own .imm) .imm) .imm))), (44, (.pr (.own .imm) .imm)), (45, (.pr (.own .imm) .imm)), (52, (.pr (.pr (.own .imm) .imm) (.pr (.own .imm) .imm))), (53, (.pr (.pr (.own .imm) .imm) (.pr (.own .imm) .imm)))], live := [(3, [3, 7, 8, 9])], ord := [], con := [((26, [.one]), impl_ownBuf.con N)], loops := [(3, loopCon N impl_ownBufs.sk3 impl_ownBufs.xs3 (fun {R} => impl_ownBufs.l3 (R := R) N))], joins := [] }
theorem impl_ownBufs.cons (N : Nat) : ConsOk Try.prog (impl_ownBufs.cfg N).con := (consOk_cons (hb26) (impl_ownBuf.ok N) (impl_ownBuf.det N) consOk_nil)
theorem impl_ownBufs.h3 {R : Type} (N : Nat) (d : impl_ownBufs.sk3.D) (kn : impl_ownBufs.sk3.D → Option R) (kx : XD impl_ownBufs.xs3 → Option R) : roundK (impl_ownBufs.cfg N) N (nthLoop (fnBody Try.f46) 0) impl_ownBufs.sk3 impl_ownBufs.xs3 d kn kx = impl_ownBufs.l3 N d kn kx := by kernel_rfl
theorem impl_ownBufs.i3 (N : Nat) : LoopsOk Try.prog (impl_ownBufs.cfg N) (nthLoop (fnBody Try.f46) 0) := loopsL (l := []) (by kernel_rfl) trivial
theorem impl_ownBufs.o3 (N : Nat) : LoopOk Try.prog (nthLoop (fnBody Try.f46) 0) (loopCon N impl_ownBufs.sk3 impl_ownBufs.xs3 (fun {R} => impl_ownBufs.l3 (R := R) N)) := loop_ok (g := impl_ownBufs.cfg N) tys_ok (impl_ownBufs.cons N) mixed (impl_ownBufs.i3 N) (fun d kn kx => impl_ownBufs.h3 N d kn kx)
theorem impl_ownBufs.ls (N : Nat) : LoopsOk Try.prog (impl_ownBufs.cfg N) (fnBody Try.f46) := loopsL (l := [nthLoop (fnBody Try.f46) 0]) (by kernel_rfl) ⟨loopOne (L0 := loopCon N impl_ownBufs.sk3 impl_ownBufs.xs3 (fun {R} => impl_ownBufs.l3 (R := R) N)) (id := 3) (by kernel_rfl) (by kernel_rfl) (impl_ownBufs.o3 N), trivial⟩
theorem impl_ownBufs.q3 {R R' : Type} {N n : Nat} {d} {k} {g : R → Option R'} : bindF (loopP (impl_ownBufs.l3 N) n d k) g = loopP (impl_ownBufs.l3 N) n d fun e => bindF (k e) g := bindF_loopP (fun d kn kx => by simp only [impl_ownBufs.l3, bindF_ifB, bindF_bindO, bindF_pure, bindF_none, bindF_onSum]) n d k
theorem impl_ownBufs.b (N : Nat) (x0 : den (.sl 25 (.pair (.sl 2 (.int .i64)) (.pair (.int .i64) (.pair (.int .i64) .unit))))) : body (impl_ownBufs.cfg N) N Try.f46 [.one] [.v] [(false, (.own (.pr (.own .imm) .imm)))] [⟨(.sl 25 (.pair (.sl 2 (.int .i64)) (.pair (.int .i64) (.pair (.int .i64) .unit)))), .imm, x0⟩] (fun r i => some (r, i)) = bindO (impl_ownBufs N x0) fun r => some ([⟨(.sl 25 (.pair (.sl 2 (.int .i64)) (.pair (.int .i64) (.pair (.int .i64) .unit)))), (.own (.pr (.own .imm) .imm)), r⟩], []) := by
  show _ = bindF _ _
  conv => rhs; simp only [impl_ownBufs, bindF_ifB, bindF_bindO, bindF_pure, bindF_none, bindF_onSum, impl_ownBufs.q3]
  kernel_rfl
theorem impl_ownBufs.ok (N : Nat) : ConOk Try.prog 46 [.one] (impl_ownBufs.con N) := by
  refine conOk_mk (g := impl_ownBufs.cfg N) (N := N) (res := [(false, (.own (.pr (.own .imm) .imm)))]) tys_ok (impl_ownBufs.cons N) mixed Try.func46 (impl_ownBufs.ls N) rfl rfl ?_
  intro ds R k y h
  cases ds with
  | nil => exact none_some h
  | cons d0 ds =>
  cases ds with
  | cons _ _ => exact none_some h
  | nil =>
  have h0 : (castDm (.sl 25 (.pair (.sl 2 (.int .i64)) (.pair (.int .i64) (.pair (.int .i64) .unit)))) .imm d0 fun x0 => bindO (impl_ownBufs N x0) fun r => k [⟨(.sl 25 (.pair (.sl 2 (.int .i64)) (.pair (.int .i64) (.pair (.int .i64) .unit)))), (.own (.pr (.own .imm) .imm)), r⟩] []) = some y := h
  clear h
  obtain ⟨x0, rfl, h1⟩ := castDm_eq h0
  exact con_fin (impl_ownBufs.b N x0) h1
theorem impl_ownBufs.det (N : Nat) : ConDet (impl_ownBufs.con N) := by
  intro ds R k y h
  cases ds with
  | nil => exact none_some h
  | cons d0 ds =>
  cases ds with
  | cons _ _ => exact none_some h
  | nil =>
  have h0 : (castDm (.sl 25 (.pair (.sl 2 (.int .i64)) (.pair (.int .i64) (.pair (.int .i64) .unit)))) .imm d0 fun x0 => bindO (impl_ownBufs N x0) fun r => k [⟨(.sl 25 (.pair (.sl 2 (.int .i64)) (.pair (.int .i64) (.pair (.int .i64) .unit)))), (.own (.pr (.own .imm) .imm)), r⟩] []) = some y := h
  clear h
  obtain ⟨x0, rfl, h1⟩ := castDm_eq h0
  obtain ⟨r, e, h⟩ := bindO_some h1
  refine ⟨_, _, h, fun k' => ?_⟩
  show (castDm (.sl 25 (.pair (.sl 2 (.int .i64)) (.pair (.int .i64) (.pair (.int .i64) .unit)))) .imm (⟨(.sl 25 (.pair (.sl 2 (.int .i64)) (.pair (.int .i64) (.pair (.int .i64) .unit)))), .imm, x0⟩ : Dy) fun x0 => bindO (impl_ownBufs N x0) fun r => k' [⟨(.sl 25 (.pair (.sl 2 (.int .i64)) (.pair (.int .i64) (.pair (.int .i64) .unit)))), (.own (.pr (.own .imm) .imm)), r⟩] []) = _
  simp only [castDm_self]
  rw [e]
  rfl
noncomputable def impl_behindBufs.con (N : Nat) : Con := { modes := [.v, .v], ptrs := [false], fn := fun ds k => match ds with | [d0, d1] => castDm (.sl 25 (.pair (.sl 2 (.int .i64)) (.pair (.int .i64) (.pair (.int .i64) .unit)))) .imm d0 fun x0 => castDm (.pair (.sl 2 (.int .i64)) (.pair (.int .i64) (.pair (.int .i64) .unit))) .imm d1 fun x1 => bindO (impl_behindBufs N x0 x1) fun r => k [⟨(.sl 25 (.pair (.sl 2 (.int .i64)) (.pair (.int .i64) (.pair (.int .i64) .unit)))), (.own (.pr (.own .imm) .imm)), r⟩] [] | _ => none }
noncomputable def impl_behindBufs.cfg (N : Nat) : Cfg := { ty := tys, keep := [7, 9], flt := [], elm := [(22, (.own .imm)), (23, (.own .imm)), (24, (.pr (.own .imm) .imm)), (25, (.pr (.own .imm) .imm)), (26, (.own (.own .imm))), (29, (.own (.pr (.own .imm) .imm))), (30, (.pr (.own (.pr (.own .imm) .imm)) (.pr (.own (.pr (.own .imm) .imm)) .imm))), (31, (.pr (.own (.pr (.own .imm) .imm)) (.pr (.own (.pr (.own .imm) .imm)) .imm))), (32, (.pr (.pr (.own (.pr (.own .imm) .imm)) (.pr (.own (.pr (.own .imm) .imm)) .imm)) (.pr (.pr (.own .imm) .imm) .imm))), (33, (.pr (.pr (.own (.pr (.own .imm) .imm)) (.pr (.own (.pr (.own .imm) .imm)) .imm)) (.pr (.pr (.own .imm) .imm) .imm))), (44, (.pr (.own .imm) .imm)), (45, (.pr (.own .imm) .imm)), (52, (.pr (.pr (.own .imm) .imm) (.pr (.own .imm) .imm))), (53, (.pr (.pr (.own .imm) .imm) (.pr (.own .imm) .imm)))], live := [], ord := [(1, [0, 2, 1, 3, 4, 5, 6])], con := [((46, [.one]), impl_ownBufs.con N), ((26, [.one]), impl_ownBuf.con N)], loops := [], joins := [] }
theorem impl_behindBufs.cons (N : Nat) : ConsOk Try.prog (impl_behindBufs.cfg N).con := (consOk_cons (hb46) (impl_ownBufs.ok N) (impl_ownBufs.det N) (consOk_cons (hb26) (impl_ownBuf.ok N) (impl_ownBuf.det N) consOk_nil))
theorem impl_behindBufs.ls (N : Nat) : LoopsOk Try.prog (impl_behindBufs.cfg N) (fnBody Try.f47) := loopsL (l := []) (by kernel_rfl) trivial
theorem impl_behindBufs.b (N : Nat) (x0 : den (.sl 25 (.pair (.sl 2 (.int .i64)) (.pair (.int .i64) (.pair (.int .i64) .unit))))) (x1 : den (.pair (.sl 2 (.int .i64)) (.pair (.int .i64) (.pair (.int .i64) .unit)))) : body (impl_behindBufs.cfg N) N Try.f47 [.one, .one] [.v, .v] [(false, (.own (.pr (.own .imm) .imm)))] [⟨(.sl 25 (.pair (.sl 2 (.int .i64)) (.pair (.int .i64) (.pair (.int .i64) .unit)))), .imm, x0⟩, ⟨(.pair (.sl 2 (.int .i64)) (.pair (.int .i64) (.pair (.int .i64) .unit))), .imm, x1⟩] (fun r i => some (r, i)) = bindO (impl_behindBufs N x0 x1) fun r => some ([⟨(.sl 25 (.pair (.sl 2 (.int .i64)) (.pair (.int .i64) (.pair (.int .i64) .unit)))), (.own (.pr (.own .imm) .imm)), r⟩], []) := by
  show _ = bindF _ _
  conv => rhs; simp only [impl_behindBufs, bindF_ifB, bindF_bindO, bindF_pure, bindF_none, bindF_onSum]
  kernel_rfl
theorem impl_behindBufs.ok (N : Nat) : ConOk Try.prog 47 [.one, .one] (impl_behindBufs.con N) := by
  refine conOk_mk (g := impl_behindBufs.cfg N) (N := N) (res := [(false, (.own (.pr (.own .imm) .imm)))]) tys_ok (impl_behindBufs.cons N) mixed Try.func47 (impl_behindBufs.ls N) rfl rfl ?_
  intro ds R k y h
  cases ds with
  | nil => exact none_some h
  | cons d0 ds =>
  cases ds with
  | nil => exact none_some h
  | cons d1 ds =>
  cases ds with
  | cons _ _ => exact none_some h
  | nil =>
  have h0 : (castDm (.sl 25 (.pair (.sl 2 (.int .i64)) (.pair (.int .i64) (.pair (.int .i64) .unit)))) .imm d0 fun x0 => castDm (.pair (.sl 2 (.int .i64)) (.pair (.int .i64) (.pair (.int .i64) .unit))) .imm d1 fun x1 => bindO (impl_behindBufs N x0 x1) fun r => k [⟨(.sl 25 (.pair (.sl 2 (.int .i64)) (.pair (.int .i64) (.pair (.int .i64) .unit)))), (.own (.pr (.own .imm) .imm)), r⟩] []) = some y := h
  clear h
  obtain ⟨x0, rfl, h1⟩ := castDm_eq h0
  obtain ⟨x1, rfl, h2⟩ := castDm_eq h1
  exact con_fin (impl_behindBufs.b N x0 x1) h2
theorem impl_behindBufs.det (N : Nat) : ConDet (impl_behindBufs.con N) := by
  intro ds R k y h
  cases ds with
  | nil => exact none_some h
  | cons d0 ds =>
  cases ds with
  | nil => exact none_some h
  | cons d1 ds =>
  cases ds with
  | cons _ _ => exact none_some h
  | nil =>
  have h0 : (castDm (.sl 25 (.pair (.sl 2 (.int .i64)) (.pair (.int .i64) (.pair (.int .i64) .unit)))) .imm d0 fun x0 => castDm (.pair (.sl 2 (.int .i64)) (.pair (.int .i64) (.pair (.int .i64) .unit))) .imm d1 fun x1 => bindO (impl_behindBufs N x0 x1) fun r => k [⟨(.sl 25 (.pair (.sl 2 (.int .i64)) (.pair (.int .i64) (.pair (.int .i64) .unit)))), (.own (.pr (.own .imm) .imm)), r⟩] []) = some y := h
  clear h
  obtain ⟨x0, rfl, h1⟩ := castDm_eq h0
  obtain ⟨x1, rfl, h2⟩ := castDm_eq h1
  obtain ⟨r, e, h⟩ := bindO_some h2
  refine ⟨_, _, h, fun k' => ?_⟩
  show (castDm (.sl 25 (.pair (.sl 2 (.int .i64)) (.pair (.int .i64) (.pair (.int .i64) .unit)))) .imm (⟨(.sl 25 (.pair (.sl 2 (.int .i64)) (.pair (.int .i64) (.pair (.int .i64) .unit)))), .imm, x0⟩ : Dy) fun x0 => castDm (.pair (.sl 2 (.int .i64)) (.pair (.int .i64) (.pair (.int .i64) .unit))) .imm (⟨(.pair (.sl 2 (.int .i64)) (.pair (.int .i64) (.pair (.int .i64) .unit))), .imm, x1⟩ : Dy) fun x1 => bindO (impl_behindBufs N x0 x1) fun r => k' [⟨(.sl 25 (.pair (.sl 2 (.int .i64)) (.pair (.int .i64) (.pair (.int .i64) .unit)))), (.own (.pr (.own .imm) .imm)), r⟩] []) = _
  simp only [castDm_self]
  rw [e]
  rfl
noncomputable def impl_UndoBack.con (N : Nat) : Con := { modes := [.v, .v], ptrs := [false], fn := fun ds k => match ds with | [d0, d1] => castDm (.pair (.sl 25 (.pair (.sl 2 (.int .i64)) (.pair (.int .i64) (.pair (.int .i64) .unit)))) (.pair (.sl 25 (.pair (.sl 2 (.int .i64)) (.pair (.int .i64) (.pair (.int .i64) .unit)))) .unit)) .imm d0 fun x0 => castDm (.pair (.sl 2 (.int .i64)) (.pair (.int .i64) (.pair (.int .i64) .unit))) .imm d1 fun x1 => bindO (impl_UndoBack N x0 x1) fun r => k [⟨(.pair (.pair (.sl 25 (.pair (.sl 2 (.int .i64)) (.pair (.int .i64) (.pair (.int .i64) .unit)))) (.pair (.sl 25 (.pair (.sl 2 (.int .i64)) (.pair (.int .i64) (.pair (.int .i64) .unit)))) .unit)) (.pair (.pair (.sl 2 (.int .i64)) (.pair (.int .i64) (.pair (.int .i64) .unit))) (.pair (.int .i64) .unit))), (.pr (.pr (.own (.pr (.own .imm) .imm)) (.pr (.own (.pr (.own .imm) .imm)) .imm)) (.pr (.pr (.own .imm) .imm) .imm)), r⟩] [] | _ => none }
noncomputable def impl_UndoBack.cfg (N : Nat) : Cfg := { ty := tys, keep := [12, 16, 28, 32, 39], flt := [], elm := [(22, (.own .imm)), (23, (.own .imm)), (24, (.pr (.own .imm) .imm)), (25, (.pr (.own .imm) .imm)), (26, (.own (.own .imm))), (29, (.own (.pr (.own .imm) .imm))), (30, (.pr (.own (.pr (.own .imm) .imm)) (.pr (.own (.pr (.own .imm) .imm)) .imm))), (31, (.pr (.own (.pr (.own .imm) .imm)) (.pr (.own (.pr (.own .imm) .imm)) .imm))), (32, (.pr (.pr (.own (.pr (.own .imm) .imm)) (.pr (.own (.pr (.own .imm) .imm)) .imm)) (.pr (.pr (.own .imm) .imm) .imm))), (33, (.pr (.pr (.own (.pr (.own .imm) .imm)) (.pr (.own (.pr (.own .imm) .imm)) .imm)) (.pr (.pr (.own .imm) .imm) .imm))), (44, (.pr (.own .imm) .imm)), (45, (.pr (.own .imm) .imm)), (52, (.pr (.pr (.own .imm) .imm) (.pr (.own .imm) .imm))), (53, (.pr (.pr (.own .imm) .imm) (.pr (.own .imm) .imm)))], live := [], ord := [(6, [0, 1, 2, 3, 5, 6, 7, 10, 11, 12, 13, 14, 4, 8, 9, 15, 16, 17])], con := [((45, [.one]), impl_UndoRight.con N), ((22, [.one]), impl_BufRight.con N), ((46, [.one]), impl_ownBufs.con N), ((47, [.one, .one]), impl_behindBufs.con N), ((26, [.one]), impl_ownBuf.con N)], loops := [], joins := [] }
theorem impl_UndoBack.cons (N : Nat) : ConsOk Try.prog (impl_UndoBack.cfg N).con := (consOk_cons (hb45) (impl_UndoRight.ok N) (impl_UndoRight.det N) (consOk_cons (hb22) (impl_BufRight.ok N) (impl_BufRight.det N) (consOk_cons (hb46) (impl_ownBufs.ok N) (impl_ownBufs.det N) (consOk_cons (hb47) (impl_behindBufs.ok N) (impl_behindBufs.det N) (consOk_cons (hb26) (impl_ownBuf.ok N) (impl_ownBuf.det N) consOk_nil)))))
theorem impl_UndoBack.ls (N : Nat) : LoopsOk Try.prog (impl_UndoBack.cfg N) (fnBody Try.f27) := loopsL (l := []) (by kernel_rfl) trivial
theorem impl_UndoBack.b (N : Nat) (x0 : den (.pair (.sl 25 (.pair (.sl 2 (.int .i64)) (.pair (.int .i64) (.pair (.int .i64) .unit)))) (.pair (.sl 25 (.pair (.sl 2 (.int .i64)) (.pair (.int .i64) (.pair (.int .i64) .unit)))) .unit))) (x1 : den (.pair (.sl 2 (.int .i64)) (.pair (.int .i64) (.pair (.int .i64) .unit)))) : body (impl_UndoBack.cfg N) N Try.f27 [.one, .one] [.v, .v] [(false, (.pr (.pr (.own (.pr (.own .imm) .imm)) (.pr (.own (.pr (.own .imm) .imm)) .imm)) (.pr (.pr (.own .imm) .imm) .imm)))] [⟨(.pair (.sl 25 (.pair (.sl 2 (.int .i64)) (.pair (.int .i64) (.pair (.int .i64) .unit)))) (.pair (.sl 25 (.pair (.sl 2 (.int .i64)) (.pair (.int .i64) (.pair (.int .i64) .unit)))) .unit)), .imm, x0⟩, ⟨(.pair (.sl 2 (.int .i64)) (.pair (.int .i64) (.pair (.int .i64) .unit))), .imm, x1⟩] (fun r i => some (r, i)) = bindO (impl_UndoBack N x0 x1) fun r => some ([⟨(.pair (.pair (.sl 25 (.pair (.sl 2 (.int .i64)) (.pair (.int .i64) (.pair (.int .i64) .unit)))) (.pair (.sl 25 (.pair (.sl 2 (.int .i64)) (.pair (.int .i64) (.pair (.int .i64) .unit)))) .unit)) (.pair (.pair (.sl 2 (.int .i64)) (.pair (.int .i64) (.pair (.int .i64) .unit))) (.pair (.int .i64) .unit))), (.pr (.pr (.own (.pr (.own .imm) .imm)) (.pr (.own (.pr (.own .imm) .imm)) .imm)) (.pr (.pr (.own .imm) .imm) .imm)), r⟩], []) := by
  show _ = bindF _ _
  conv => rhs; simp only [impl_UndoBack, bindF_ifB, bindF_bindO, bindF_pure, bindF_none, bindF_onSum]
  kernel_rfl
theorem impl_UndoBack.ok (N : Nat) : ConOk Try.prog 27 [.one, .one] (impl_UndoBack.con N) := by
  refine conOk_mk (g := impl_UndoBack.cfg N) (N := N) (res := [(false, (.pr (.pr (.own (.pr (.own .imm) .imm)) (.pr (.own (.pr (.own .imm) .imm)) .imm)) (.pr (.pr (.own .imm) .imm) .imm)))]) tys_ok (impl_UndoBack.cons N) mixed Try.func27 (impl_UndoBack.ls N) rfl rfl ?_
  intro ds R k y h
  cases ds with
  | nil => exact none_some h
  | cons d0 ds =>
  cases ds with
  | nil => exact none_some h
  | cons d1 ds =>
  cases ds with
  | cons _ _ => exact none_some h
  | nil =>
  have h0 : (castDm (.pair (.sl 25 (.pair (.sl 2 (.int .i64)) (.pair (.int .i64) (.pair (.int .i64) .unit)))) (.pair (.sl 25 (.pair (.sl 2 (.int .i64)) (.pair (.int .i64) (.pair (.int .i64) .unit)))) .unit)) .imm d0 fun x0 => castDm (.pair (.sl 2 (.int .i64)) (.pair (.int .i64) (.pair (.int .i64) .unit))) .imm d1 fun x1 => bindO (impl_UndoBack N x0 x1) fun r => k [⟨(.pair (.pair (.sl 25 (.pair (.sl 2 (.int .i64)) (.pair (.int .i64) (.pair (.int .i64) .unit)))) (.pair (.sl 25 (.pair (.sl 2 (.int .i64)) (.pair (.int .i64) (.pair (.int .i64) .unit)))) .unit)) (.pair (.pair (.sl 2 (.int .i64)) (.pair (.int .i64) (.pair (.int .i64) .unit))) (.pair (.int .i64) .unit))), (.pr (.pr (.own (.pr (.own .imm) .imm)) (.pr (.own (.pr (.own .imm) .imm)) .imm)) (.pr (.pr (.own .imm) .imm) .imm)), r⟩] []) = some y := h
  clear h
  obtain ⟨x0, rfl, h1⟩ := castDm_eq h0
  obtain ⟨x1, rfl, h2⟩ := castDm_eq h1
  exact con_fin (impl_UndoBack.b N x0 x1) h2
theorem impl_UndoBack.det (N : Nat) : ConDet (impl_UndoBack.con N) := by
  intro ds R k y h
  cases ds with
  | nil => exact none_some h
  | cons d0 ds =>
  cases ds with
  | nil => exact none_some h
  | cons d1 ds =>
  cases ds with
  | cons _ _ => exact none_some h
  | nil =>
  have h0 : (castDm (.pair (.sl 25 (.pair (.sl 2 (.int .i64)) (.pair (.int .i64) (.pair (.int .i64) .unit)))) (.pair (.sl 25 (.pair (.sl 2 (.int .i64)) (.pair (.int .i64) (.pair (.int .i64) .unit)))) .unit)) .imm d0 fun x0 => castDm (.pair (.sl 2 (.int .i64)) (.pair (.int .i64) (.pair (.int .i64) .unit))) .imm d1 fun x1 => bindO (impl_UndoBack N x0 x1) fun r => k [⟨(.pair (.pair (.sl 25 (.pair (.sl 2 (.int .i64)) (.pair (.int .i64) (.pair (.int .i64) .unit)))) (.pair (.sl 25 (.pair (.sl 2 (.int .i64)) (.pair (.int .i64) (.pair (.int .i64) .unit)))) .unit)) (.pair (.pair (.sl 2 (.int .i64)) (.pair (.int .i64) (.pair (.int .i64) .unit))) (.pair (.int .i64) .unit))), (.pr (.pr (.own (.pr (.own .imm) .imm)) (.pr (.own (.pr (.own .imm) .imm)) .imm)) (.pr (.pr (.own .imm) .imm) .imm)), r⟩] []) = some y := h
  clear h
  obtain ⟨x0, rfl, h1⟩ := castDm_eq h0
  obtain ⟨x1, rfl, h2⟩ := castDm_eq h1
  obtain ⟨r, e, h⟩ := bindO_some h2
  refine ⟨_, _, h, fun k' => ?_⟩
  show (castDm (.pair (.sl 25 (.pair (.sl 2 (.int .i64)) (.pair (.int .i64) (.pair (.int .i64) .unit)))) (.pair (.sl 25 (.pair (.sl 2 (.int .i64)) (.pair (.int .i64) (.pair (.int .i64) .unit)))) .unit)) .imm (⟨(.pair (.sl 25 (.pair (.sl 2 (.int .i64)) (.pair (.int .i64) (.pair (.int .i64) .unit)))) (.pair (.sl 25 (.pair (.sl 2 (.int .i64)) (.pair (.int .i64) (.pair (.int .i64) .unit)))) .unit)), .imm, x0⟩ : Dy) fun x0 => castDm (.pair (.sl 2 (.int .i64)) (.pair (.int .i64) (.pair (.int .i64) .unit))) .imm (⟨(.pair (.sl 2 (.int .i64)) (.pair (.int .i64) (.pair (.int .i64) .unit))), .imm, x1⟩ : Dy) fun x1 => bindO (impl_UndoBack N x0 x1) fun r => k' [⟨(.pair (.pair (.sl 25 (.pair (.sl 2 (.int .i64)) (.pair (.int .i64) (.pair (.int .i64) .unit)))) (.pair (.sl 25 (.pair (.sl 2 (.int .i64)) (.pair (.int .i64) (.pair (.int .i64) .unit)))) .unit)) (.pair (.pair (.sl 2 (.int .i64)) (.pair (.int .i64) (.pair (.int .i64) .unit))) (.pair (.int .i64) .unit))), (.pr (.pr (.own (.pr (.own .imm) .imm)) (.pr (.own (.pr (.own .imm) .imm)) .imm)) (.pr (.pr (.own .imm) .imm) .imm)), r⟩] []) = _
  simp only [castDm_self]
  rw [e]
  rfl
end Go.AE.F
