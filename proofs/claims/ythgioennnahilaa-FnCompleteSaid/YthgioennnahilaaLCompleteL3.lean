/- The printed functions are what the program comes to: contracts. -/
import Derived.Test.YthgioennnahilaaLCompleteL2
namespace Go.AE.F
open Go.AE Go.Proofs
set_option maxRecDepth 100000
noncomputable def slices_ContainsFunc_S_Sint64__Sint64__impl_common_c1.con (N : Nat) : Con := { modes := [.v, .rd, .rd], ptrs := [false], fn := fun ds k => match ds with | [d0, d1, d2] => castDm (.sl 24 (.sl 2 (.int .i64))) .imm d0 fun x0 => castDm (.sl 24 (.sl 2 (.int .i64))) .imm d1 fun x1 => castDm (.int .i64) .imm d2 fun x2 => bindO (slices_ContainsFunc_S_Sint64__Sint64__impl_common_c1 N x0 x1 x2) fun r => k [⟨.bool, .imm, r⟩] [] | _ => none }
noncomputable def slices_ContainsFunc_S_Sint64__Sint64__impl_common_c1.cfg (N : Nat) : Cfg := { ty := tys, keep := [7], flt := [], elm := [(22, (.own .imm)), (23, (.own (.own .imm))), (24, (.own .imm)), (43, (.pr (.own .imm) .imm)), (44, (.pr (.own .imm) .imm)), (48, (.own .imm))], live := [], ord := [], con := [((48, [.one, .fn 42 2]), slices_IndexFunc_S_Sint64__Sint64__impl_common_c1.con N)], loops := [], joins := [] }
theorem slices_ContainsFunc_S_Sint64__Sint64__impl_common_c1.cons (N : Nat) : ConsOk Try.prog (slices_ContainsFunc_S_Sint64__Sint64__impl_common_c1.cfg N).con := (consOk_cons (hb48) (slices_IndexFunc_S_Sint64__Sint64__impl_common_c1.ok N) (slices_IndexFunc_S_Sint64__Sint64__impl_common_c1.det N) consOk_nil)
theorem slices_ContainsFunc_S_Sint64__Sint64__impl_common_c1.ls (N : Nat) : LoopsOk Try.prog (slices_ContainsFunc_S_Sint64__Sint64__impl_common_c1.cfg N) (fnBody Try.f36) := loopsL (l := []) (by kernel_rfl) trivial
theorem slices_ContainsFunc_S_Sint64__Sint64__impl_common_c1.b (N : Nat) (x0 : den (.sl 24 (.sl 2 (.int .i64)))) (x1 : den (.sl 24 (.sl 2 (.int .i64)))) (x2 : den (.int .i64)) : body (slices_ContainsFunc_S_Sint64__Sint64__impl_common_c1.cfg N) N Try.f36 [.one, .fn 42 2] [.v, .rd, .rd] [(false, .imm)] [⟨(.sl 24 (.sl 2 (.int .i64))), .imm, x0⟩, ⟨(.sl 24 (.sl 2 (.int .i64))), .imm, x1⟩, ⟨(.int .i64), .imm, x2⟩] (fun r i => some (r, i)) = bindO (slices_ContainsFunc_S_Sint64__Sint64__impl_common_c1 N x0 x1 x2) fun r => some ([⟨.bool, .imm, r⟩], []) := by
  show _ = bindF _ _
  conv => rhs; simp only [slices_ContainsFunc_S_Sint64__Sint64__impl_common_c1, bindF_ifB, bindF_bindO, bindF_pure, bindF_none, bindF_onSum]
  kernel_rfl
theorem slices_ContainsFunc_S_Sint64__Sint64__impl_common_c1.ok (N : Nat) : ConOk Try.prog 36 [.one, .fn 42 2] (slices_ContainsFunc_S_Sint64__Sint64__impl_common_c1.con N) := by
  refine conOk_mk (g := slices_ContainsFunc_S_Sint64__Sint64__impl_common_c1.cfg N) (N := N) (res := [(false, .imm)]) tys_ok (slices_ContainsFunc_S_Sint64__Sint64__impl_common_c1.cons N) mixed Try.func36 (slices_ContainsFunc_S_Sint64__Sint64__impl_common_c1.ls N) rfl rfl ?_
  intro ds R k y h
  cases ds with
  | nil => exact none_some h
  | cons d0 ds =>
  cases ds with
  | nil => exact none_some h
  | cons d1 ds =>
  cases ds with
  | nil => exact none_some h
  | cons d2 ds =>
  cases ds with
  | cons _ _ => exact none_some h
  | nil =>
  have h0 : (castDm (.sl 24 (.sl 2 (.int .i64))) .imm d0 fun x0 => castDm (.sl 24 (.sl 2 (.int .i64))) .imm d1 fun x1 => castDm (.int .i64) .imm d2 fun x2 => bindO (slices_ContainsFunc_S_Sint64__Sint64__impl_common_c1 N x0 x1 x2) fun r => k [⟨.bool, .imm, r⟩] []) = some y := h
  clear h
  obtain ⟨x0, rfl, h1⟩ := castDm_eq h0
  obtain ⟨x1, rfl, h2⟩ := castDm_eq h1
  obtain ⟨x2, rfl, h3⟩ := castDm_eq h2
  exact con_fin (slices_ContainsFunc_S_Sint64__Sint64__impl_common_c1.b N x0 x1 x2) h3
theorem slices_ContainsFunc_S_Sint64__Sint64__impl_common_c1.det (N : Nat) : ConDet (slices_ContainsFunc_S_Sint64__Sint64__impl_common_c1.con N) := by
  intro ds R k y h
  cases ds with
  | nil => exact none_some h
  | cons d0 ds =>
  cases ds with
  | nil => exact none_some h
  | cons d1 ds =>
  cases ds with
  | nil => exact none_some h
  | cons d2 ds =>
  cases ds with
  | cons _ _ => exact none_some h
  | nil =>
  have h0 : (castDm (.sl 24 (.sl 2 (.int .i64))) .imm d0 fun x0 => castDm (.sl 24 (.sl 2 (.int .i64))) .imm d1 fun x1 => castDm (.int .i64) .imm d2 fun x2 => bindO (slices_ContainsFunc_S_Sint64__Sint64__impl_common_c1 N x0 x1 x2) fun r => k [⟨.bool, .imm, r⟩] []) = some y := h
  clear h
  obtain ⟨x0, rfl, h1⟩ := castDm_eq h0
  obtain ⟨x1, rfl, h2⟩ := castDm_eq h1
  obtain ⟨x2, rfl, h3⟩ := castDm_eq h2
  obtain ⟨r, e, h⟩ := bindO_some h3
  refine ⟨_, _, h, fun k' => ?_⟩
  show (castDm (.sl 24 (.sl 2 (.int .i64))) .imm (⟨(.sl 24 (.sl 2 (.int .i64))), .imm, x0⟩ : Dy) fun x0 => castDm (.sl 24 (.sl 2 (.int .i64))) .imm (⟨(.sl 24 (.sl 2 (.int .i64))), .imm, x1⟩ : Dy) fun x1 => castDm (.int .i64) .imm (⟨(.int .i64), .imm, x2⟩ : Dy) fun x2 => bindO (slices_ContainsFunc_S_Sint64__Sint64__impl_common_c1 N x0 x1 x2) fun r => k' [⟨.bool, .imm, r⟩] []) = _
  simp only [castDm_self]
  rw [e]
  rfl
def impl_common.sk5 : Skel := ⟨[.dead, .dead, .dead, .dead, .dead, .ptr 50 [], .dead, .ptr 51 [], .dead, .dead, .dead, .dead, .dead, .dead, .dead, .dead, .dead, .dead, .dead, .dead, .dead, .dead, .dead, .dead, .dead, .dead, .dead, .dead, .dead, .dead, .dead, .dead], [⟨50, (.sl 24 (.sl 2 (.int .i64))), (.own .imm), true, false⟩, ⟨51, (.int .i64), .imm, true, false⟩]⟩
def impl_common.xs5 : List XS := [⟨.exit 0, [5, 7], ⟨[.dead, .dead, .dead, .dead, .dead, .ptr 50 [], .dead, .ptr 51 [], .dead, .dead, .dead, .dead, .dead, .dead, .dead, .dead, .dead, .dead, .dead, .dead, .dead, .dead, .dead, .dead, .dead, .dead, .dead, .dead, .dead, .dead, .dead, .dead], [⟨50, (.sl 24 (.sl 2 (.int .i64))), (.own .imm), true, false⟩, ⟨51, (.int .i64), .imm, true, false⟩]⟩⟩]
noncomputable def impl_common.con (N : Nat) : Con := { modes := [.v, .v], ptrs := [false], fn := fun ds k => match ds with | [d0, d1] => castDm (.sl 24 (.sl 2 (.int .i64))) .imm d0 fun x0 => castDm (.sl 2 (.int .i64)) .imm d1 fun x1 => bindO (impl_common N x0 x1) fun r => k [⟨(.sl 2 (.int .i64)), .imm, r⟩] [] | _ => none }
noncomputable def impl_common.cfg (N : Nat) : Cfg := { ty := tys, keep := [11, 24], flt := [], elm := [(22, (.own .imm)), (23, (.own (.own .imm))), (24, (.own .imm)), (43, (.pr (.own .imm) .imm)), (44, (.pr (.own .imm) .imm)), (48, (.own .imm))], live := [(5, [5, 7])], ord := [(7, [0, 1, 2, 3, 4, 5])], con := [((23, [.one, .one]), impl_matches.con N), ((36, [.one, .fn 42 2]), slices_ContainsFunc_S_Sint64__Sint64__impl_common_c1.con N)], loops := [(5, loopCon N impl_common.sk5 impl_common.xs5 (fun {R} => impl_common.l5 (R := R) N))], joins := [] }
theorem impl_common.cons (N : Nat) : ConsOk Try.prog (impl_common.cfg N).con := (consOk_cons (hb23) (impl_matches.ok N) (impl_matches.det N) (consOk_cons (hb36) (slices_ContainsFunc_S_Sint64__Sint64__impl_common_c1.ok N) (slices_ContainsFunc_S_Sint64__Sint64__impl_common_c1.det N) consOk_nil))
theorem impl_common.h5 {R : Type} (N : Nat) (d : impl_common.sk5.D) (kn : impl_common.sk5.D → Option R) (kx : XD impl_common.xs5 → Option R) : roundK (impl_common.cfg N) N (nthLoop (fnBody Try.f21) 0) impl_common.sk5 impl_common.xs5 d kn kx = impl_common.l5 N d kn kx := by kernel_rfl
theorem impl_common.i5 (N : Nat) : LoopsOk Try.prog (impl_common.cfg N) (nthLoop (fnBody Try.f21) 0) := loopsL (l := []) (by kernel_rfl) trivial
theorem impl_common.o5 (N : Nat) : LoopOk Try.prog (nthLoop (fnBody Try.f21) 0) (loopCon N impl_common.sk5 impl_common.xs5 (fun {R} => impl_common.l5 (R := R) N)) := loop_ok (g := impl_common.cfg N) tys_ok (impl_common.cons N) mixed (impl_common.i5 N) (fun d kn kx => impl_common.h5 N d kn kx)
theorem impl_common.ls (N : Nat) : LoopsOk Try.prog (impl_common.cfg N) (fnBody Try.f21) := loopsL (l := [nthLoop (fnBody Try.f21) 0]) (by kernel_rfl) ⟨loopOne (L0 := loopCon N impl_common.sk5 impl_common.xs5 (fun {R} => impl_common.l5 (R := R) N)) (id := 5) (by kernel_rfl) (by kernel_rfl) (impl_common.o5 N), trivial⟩
theorem impl_common.q5 {R R' : Type} {N n : Nat} {d} {k} {g : R → Option R'} : bindF (loopP (impl_common.l5 N) n d k) g = loopP (impl_common.l5 N) n d fun e => bindF (k e) g := bindF_loopP (fun d kn kx => by simp only [impl_common.l5, bindF_ifB, bindF_bindO, bindF_pure, bindF_none, bindF_onSum]) n d k
theorem impl_common.b (N : Nat) (x0 : den (.sl 24 (.sl 2 (.int .i64)))) (x1 : den (.sl 2 (.int .i64))) : body (impl_common.cfg N) N Try.f21 [.one, .one] [.v, .v] [(false, .imm)] [⟨(.sl 24 (.sl 2 (.int .i64))), .imm, x0⟩, ⟨(.sl 2 (.int .i64)), .imm, x1⟩] (fun r i => some (r, i)) = bindO (impl_common N x0 x1) fun r => some ([⟨(.sl 2 (.int .i64)), .imm, r⟩], []) := by
  show _ = bindF _ _
  conv => rhs; simp only [impl_common, bindF_ifB, bindF_bindO, bindF_pure, bindF_none, bindF_onSum, impl_common.q5]
  kernel_rfl
theorem impl_common.ok (N : Nat) : ConOk Try.prog 21 [.one, .one] (impl_common.con N) := by
  refine conOk_mk (g := impl_common.cfg N) (N := N) (res := [(false, .imm)]) tys_ok (impl_common.cons N) mixed Try.func21 (impl_common.ls N) rfl rfl ?_
  intro ds R k y h
  cases ds with
  | nil => exact none_some h
  | cons d0 ds =>
  cases ds with
  | nil => exact none_some h
  | cons d1 ds =>
  cases ds with
  | cons _ _ => exact none_some h
  | nil =>
  have h0 : (castDm (.sl 24 (.sl 2 (.int .i64))) .imm d0 fun x0 => castDm (.sl 2 (.int .i64)) .imm d1 fun x1 => bindO (impl_common N x0 x1) fun r => k [⟨(.sl 2 (.int .i64)), .imm, r⟩] []) = some y := h
  clear h
  obtain ⟨x0, rfl, h1⟩ := castDm_eq h0
  obtain ⟨x1, rfl, h2⟩ := castDm_eq h1
  exact con_fin (impl_common.b N x0 x1) h2
theorem impl_common.det (N : Nat) : ConDet (impl_common.con N) := by
  intro ds R k y h
  cases ds with
  | nil => exact none_some h
  | cons d0 ds =>
  cases ds with
  | nil => exact none_some h
  | cons d1 ds =>
  cases ds with
  | cons _ _ => exact none_some h
  | nil =>
  have h0 : (castDm (.sl 24 (.sl 2 (.int .i64))) .imm d0 fun x0 => castDm (.sl 2 (.int .i64)) .imm d1 fun x1 => bindO (impl_common N x0 x1) fun r => k [⟨(.sl 2 (.int .i64)), .imm, r⟩] []) = some y := h
  clear h
  obtain ⟨x0, rfl, h1⟩ := castDm_eq h0
  obtain ⟨x1, rfl, h2⟩ := castDm_eq h1
  obtain ⟨r, e, h⟩ := bindO_some h2
  refine ⟨_, _, h, fun k' => ?_⟩
  show (castDm (.sl 24 (.sl 2 (.int .i64))) .imm (⟨(.sl 24 (.sl 2 (.int .i64))), .imm, x0⟩ : Dy) fun x0 => castDm (.sl 2 (.int .i64)) .imm (⟨(.sl 2 (.int .i64)), .imm, x1⟩ : Dy) fun x1 => bindO (impl_common N x0 x1) fun r => k' [⟨(.sl 2 (.int .i64)), .imm, r⟩] []) = _
  simp only [castDm_self]
  rw [e]
  rfl
noncomputable def impl_CompCommon.con (N : Nat) : Con := { modes := [.v, .v], ptrs := [false], fn := fun ds k => match ds with | [d0, d1] => castDm (.sl 24 (.sl 2 (.int .i64))) .imm d0 fun x0 => castDm (.sl 2 (.int .i64)) .imm d1 fun x1 => bindO (impl_CompCommon N x0 x1) fun r => k [⟨(.sl 2 (.int .i64)), (.own .imm), r⟩] [] | _ => none }
noncomputable def impl_CompCommon.cfg (N : Nat) : Cfg := { ty := tys, keep := [8, 11, 16, 19, 22, 23], flt := [], elm := [(22, (.own .imm)), (23, (.own (.own .imm))), (24, (.own .imm)), (43, (.pr (.own .imm) .imm)), (44, (.pr (.own .imm) .imm)), (48, (.own .imm))], live := [], ord := [], con := [((17, [.one]), impl_isMany.con N), ((18, [.one]), impl_PointsRight.con N), ((19, [.one]), impl_CandsRight.con N), ((20, [.one]), slices_Clone_Sint64_int64.con N), ((21, [.one, .one]), impl_common.con N)], loops := [], joins := [] }
theorem impl_CompCommon.cons (N : Nat) : ConsOk Try.prog (impl_CompCommon.cfg N).con := (consOk_cons (hb17) (impl_isMany.ok N) (impl_isMany.det N) (consOk_cons (hb18) (impl_PointsRight.ok N) (impl_PointsRight.det N) (consOk_cons (hb19) (impl_CandsRight.ok N) (impl_CandsRight.det N) (consOk_cons (hb20) (slices_Clone_Sint64_int64.ok N) (slices_Clone_Sint64_int64.det N) (consOk_cons (hb21) (impl_common.ok N) (impl_common.det N) consOk_nil)))))
theorem impl_CompCommon.ls (N : Nat) : LoopsOk Try.prog (impl_CompCommon.cfg N) (fnBody Try.f5) := loopsL (l := []) (by kernel_rfl) trivial
theorem impl_CompCommon.b (N : Nat) (x0 : den (.sl 24 (.sl 2 (.int .i64)))) (x1 : den (.sl 2 (.int .i64))) : body (impl_CompCommon.cfg N) N Try.f5 [.one, .one] [.v, .v] [(false, (.own .imm))] [⟨(.sl 24 (.sl 2 (.int .i64))), .imm, x0⟩, ⟨(.sl 2 (.int .i64)), .imm, x1⟩] (fun r i => some (r, i)) = bindO (impl_CompCommon N x0 x1) fun r => some ([⟨(.sl 2 (.int .i64)), (.own .imm), r⟩], []) := by
  show _ = bindF _ _
  conv => rhs; simp only [impl_CompCommon, bindF_ifB, bindF_bindO, bindF_pure, bindF_none, bindF_onSum]
  kernel_rfl
theorem impl_CompCommon.ok (N : Nat) : ConOk Try.prog 5 [.one, .one] (impl_CompCommon.con N) := by
  refine conOk_mk (g := impl_CompCommon.cfg N) (N := N) (res := [(false, (.own .imm))]) tys_ok (impl_CompCommon.cons N) mixed Try.func5 (impl_CompCommon.ls N) rfl rfl ?_
  intro ds R k y h
  cases ds with
  | nil => exact none_some h
  | cons d0 ds =>
  cases ds with
  | nil => exact none_some h
  | cons d1 ds =>
  cases ds with
  | cons _ _ => exact none_some h
  | nil =>
  have h0 : (castDm (.sl 24 (.sl 2 (.int .i64))) .imm d0 fun x0 => castDm (.sl 2 (.int .i64)) .imm d1 fun x1 => bindO (impl_CompCommon N x0 x1) fun r => k [⟨(.sl 2 (.int .i64)), (.own .imm), r⟩] []) = some y := h
  clear h
  obtain ⟨x0, rfl, h1⟩ := castDm_eq h0
  obtain ⟨x1, rfl, h2⟩ := castDm_eq h1
  exact con_fin (impl_CompCommon.b N x0 x1) h2
theorem impl_CompCommon.det (N : Nat) : ConDet (impl_CompCommon.con N) := by
  intro ds R k y h
  cases ds with
  | nil => exact none_some h
  | cons d0 ds =>
  cases ds with
  | nil => exact none_some h
  | cons d1 ds =>
  cases ds with
  | cons _ _ => exact none_some h
  | nil =>
  have h0 : (castDm (.sl 24 (.sl 2 (.int .i64))) .imm d0 fun x0 => castDm (.sl 2 (.int .i64)) .imm d1 fun x1 => bindO (impl_CompCommon N x0 x1) fun r => k [⟨(.sl 2 (.int .i64)), (.own .imm), r⟩] []) = some y := h
  clear h
  obtain ⟨x0, rfl, h1⟩ := castDm_eq h0
  obtain ⟨x1, rfl, h2⟩ := castDm_eq h1
  obtain ⟨r, e, h⟩ := bindO_some h2
  refine ⟨_, _, h, fun k' => ?_⟩
  show (castDm (.sl 24 (.sl 2 (.int .i64))) .imm (⟨(.sl 24 (.sl 2 (.int .i64))), .imm, x0⟩ : Dy) fun x0 => castDm (.sl 2 (.int .i64)) .imm (⟨(.sl 2 (.int .i64)), .imm, x1⟩ : Dy) fun x1 => bindO (impl_CompCommon N x0 x1) fun r => k' [⟨(.sl 2 (.int .i64)), (.own .imm), r⟩] []) = _
  simp only [castDm_self]
  rw [e]
  rfl
noncomputable def impl_compAsked.con (N : Nat) : Con := { modes := [.v, .v], ptrs := [false], fn := fun ds k => match ds with | [d0, d1] => castDm (.sl 24 (.sl 2 (.int .i64))) .imm d0 fun x0 => castDm (.sl 2 (.int .i64)) .imm d1 fun x1 => bindO (impl_compAsked N x0 x1) fun r => k [⟨.bool, .imm, r⟩] [] | _ => none }
noncomputable def impl_compAsked.cfg (N : Nat) : Cfg := { ty := tys, keep := [7, 12, 17, 21], flt := [], elm := [(22, (.own .imm)), (23, (.own (.own .imm))), (24, (.own .imm)), (43, (.pr (.own .imm) .imm)), (44, (.pr (.own .imm) .imm)), (48, (.own .imm))], live := [], ord := [], con := [((17, [.one]), impl_isMany.con N), ((19, [.one]), impl_CandsRight.con N), ((18, [.one]), impl_PointsRight.con N)], loops := [], joins := [] }
theorem impl_compAsked.cons (N : Nat) : ConsOk Try.prog (impl_compAsked.cfg N).con := (consOk_cons (hb17) (impl_isMany.ok N) (impl_isMany.det N) (consOk_cons (hb19) (impl_CandsRight.ok N) (impl_CandsRight.det N) (consOk_cons (hb18) (impl_PointsRight.ok N) (impl_PointsRight.det N) consOk_nil)))
theorem impl_compAsked.ls (N : Nat) : LoopsOk Try.prog (impl_compAsked.cfg N) (fnBody Try.f22) := loopsL (l := []) (by kernel_rfl) trivial
theorem impl_compAsked.b (N : Nat) (x0 : den (.sl 24 (.sl 2 (.int .i64)))) (x1 : den (.sl 2 (.int .i64))) : body (impl_compAsked.cfg N) N Try.f22 [.one, .one] [.v, .v] [(false, .imm)] [⟨(.sl 24 (.sl 2 (.int .i64))), .imm, x0⟩, ⟨(.sl 2 (.int .i64)), .imm, x1⟩] (fun r i => some (r, i)) = bindO (impl_compAsked N x0 x1) fun r => some ([⟨.bool, .imm, r⟩], []) := by
  show _ = bindF _ _
  conv => rhs; simp only [impl_compAsked, bindF_ifB, bindF_bindO, bindF_pure, bindF_none, bindF_onSum]
  kernel_rfl
theorem impl_compAsked.ok (N : Nat) : ConOk Try.prog 22 [.one, .one] (impl_compAsked.con N) := by
  refine conOk_mk (g := impl_compAsked.cfg N) (N := N) (res := [(false, .imm)]) tys_ok (impl_compAsked.cons N) mixed Try.func22 (impl_compAsked.ls N) rfl rfl ?_
  intro ds R k y h
  cases ds with
  | nil => exact none_some h
  | cons d0 ds =>
  cases ds with
  | nil => exact none_some h
  | cons d1 ds =>
  cases ds with
  | cons _ _ => exact none_some h
  | nil =>
  have h0 : (castDm (.sl 24 (.sl 2 (.int .i64))) .imm d0 fun x0 => castDm (.sl 2 (.int .i64)) .imm d1 fun x1 => bindO (impl_compAsked N x0 x1) fun r => k [⟨.bool, .imm, r⟩] []) = some y := h
  clear h
  obtain ⟨x0, rfl, h1⟩ := castDm_eq h0
  obtain ⟨x1, rfl, h2⟩ := castDm_eq h1
  exact con_fin (impl_compAsked.b N x0 x1) h2
theorem impl_compAsked.det (N : Nat) : ConDet (impl_compAsked.con N) := by
  intro ds R k y h
  cases ds with
  | nil => exact none_some h
  | cons d0 ds =>
  cases ds with
  | nil => exact none_some h
  | cons d1 ds =>
  cases ds with
  | cons _ _ => exact none_some h
  | nil =>
  have h0 : (castDm (.sl 24 (.sl 2 (.int .i64))) .imm d0 fun x0 => castDm (.sl 2 (.int .i64)) .imm d1 fun x1 => bindO (impl_compAsked N x0 x1) fun r => k [⟨.bool, .imm, r⟩] []) = some y := h
  clear h
  obtain ⟨x0, rfl, h1⟩ := castDm_eq h0
  obtain ⟨x1, rfl, h2⟩ := castDm_eq h1
  obtain ⟨r, e, h⟩ := bindO_some h2
  refine ⟨_, _, h, fun k' => ?_⟩
  show (castDm (.sl 24 (.sl 2 (.int .i64))) .imm (⟨(.sl 24 (.sl 2 (.int .i64))), .imm, x0⟩ : Dy) fun x0 => castDm (.sl 2 (.int .i64)) .imm (⟨(.sl 2 (.int .i64)), .imm, x1⟩ : Dy) fun x1 => bindO (impl_compAsked N x0 x1) fun r => k' [⟨.bool, .imm, r⟩] []) = _
  simp only [castDm_self]
  rw [e]
  rfl
noncomputable def impl_CompMatch.con (N : Nat) : Con := { modes := [.v, .v], ptrs := [false], fn := fun ds k => match ds with | [d0, d1] => castDm (.sl 24 (.sl 2 (.int .i64))) .imm d0 fun x0 => castDm (.sl 2 (.int .i64)) .imm d1 fun x1 => bindO (impl_CompMatch N x0 x1) fun r => k [⟨(.sl 2 (.int .i64)), (.own .imm), r⟩] [] | _ => none }
noncomputable def impl_CompMatch.cfg (N : Nat) : Cfg := { ty := tys, keep := [9, 14], flt := [], elm := [(22, (.own .imm)), (23, (.own (.own .imm))), (24, (.own .imm)), (43, (.pr (.own .imm) .imm)), (44, (.pr (.own .imm) .imm)), (48, (.own .imm))], live := [], ord := [], con := [((22, [.one, .one]), impl_compAsked.con N), ((23, [.one, .one]), impl_matches.con N)], loops := [], joins := [] }
theorem impl_CompMatch.cons (N : Nat) : ConsOk Try.prog (impl_CompMatch.cfg N).con := (consOk_cons (hb22) (impl_compAsked.ok N) (impl_compAsked.det N) (consOk_cons (hb23) (impl_matches.ok N) (impl_matches.det N) consOk_nil))
theorem impl_CompMatch.ls (N : Nat) : LoopsOk Try.prog (impl_CompMatch.cfg N) (fnBody Try.f8) := loopsL (l := []) (by kernel_rfl) trivial
theorem impl_CompMatch.b (N : Nat) (x0 : den (.sl 24 (.sl 2 (.int .i64)))) (x1 : den (.sl 2 (.int .i64))) : body (impl_CompMatch.cfg N) N Try.f8 [.one, .one] [.v, .v] [(false, (.own .imm))] [⟨(.sl 24 (.sl 2 (.int .i64))), .imm, x0⟩, ⟨(.sl 2 (.int .i64)), .imm, x1⟩] (fun r i => some (r, i)) = bindO (impl_CompMatch N x0 x1) fun r => some ([⟨(.sl 2 (.int .i64)), (.own .imm), r⟩], []) := by
  show _ = bindF _ _
  conv => rhs; simp only [impl_CompMatch, bindF_ifB, bindF_bindO, bindF_pure, bindF_none, bindF_onSum]
  kernel_rfl
theorem impl_CompMatch.ok (N : Nat) : ConOk Try.prog 8 [.one, .one] (impl_CompMatch.con N) := by
  refine conOk_mk (g := impl_CompMatch.cfg N) (N := N) (res := [(false, (.own .imm))]) tys_ok (impl_CompMatch.cons N) mixed Try.func8 (impl_CompMatch.ls N) rfl rfl ?_
  intro ds R k y h
  cases ds with
  | nil => exact none_some h
  | cons d0 ds =>
  cases ds with
  | nil => exact none_some h
  | cons d1 ds =>
  cases ds with
  | cons _ _ => exact none_some h
  | nil =>
  have h0 : (castDm (.sl 24 (.sl 2 (.int .i64))) .imm d0 fun x0 => castDm (.sl 2 (.int .i64)) .imm d1 fun x1 => bindO (impl_CompMatch N x0 x1) fun r => k [⟨(.sl 2 (.int .i64)), (.own .imm), r⟩] []) = some y := h
  clear h
  obtain ⟨x0, rfl, h1⟩ := castDm_eq h0
  obtain ⟨x1, rfl, h2⟩ := castDm_eq h1
  exact con_fin (impl_CompMatch.b N x0 x1) h2
theorem impl_CompMatch.det (N : Nat) : ConDet (impl_CompMatch.con N) := by
  intro ds R k y h
  cases ds with
  | nil => exact none_some h
  | cons d0 ds =>
  cases ds with
  | nil => exact none_some h
  | cons d1 ds =>
  cases ds with
  | cons _ _ => exact none_some h
  | nil =>
  have h0 : (castDm (.sl 24 (.sl 2 (.int .i64))) .imm d0 fun x0 => castDm (.sl 2 (.int .i64)) .imm d1 fun x1 => bindO (impl_CompMatch N x0 x1) fun r => k [⟨(.sl 2 (.int .i64)), (.own .imm), r⟩] []) = some y := h
  clear h
  obtain ⟨x0, rfl, h1⟩ := castDm_eq h0
  obtain ⟨x1, rfl, h2⟩ := castDm_eq h1
  obtain ⟨r, e, h⟩ := bindO_some h2
  refine ⟨_, _, h, fun k' => ?_⟩
  show (castDm (.sl 24 (.sl 2 (.int .i64))) .imm (⟨(.sl 24 (.sl 2 (.int .i64))), .imm, x0⟩ : Dy) fun x0 => castDm (.sl 2 (.int .i64)) .imm (⟨(.sl 2 (.int .i64)), .imm, x1⟩ : Dy) fun x1 => bindO (impl_CompMatch N x0 x1) fun r => k' [⟨(.sl 2 (.int .i64)), (.own .imm), r⟩] []) = _
  simp only [castDm_self]
  rw [e]
  rfl
def spec_PointsRight.sk4 : Skel := ⟨[.pv (.sl 2 (.int .i64)), .dead, .dead, .pv (.int .i64), .dead, .dead, .dead, .dead, .dead, .dead, .dead, .dead, .dead, .dead, .dead, .dead, .dead, .dead, .dead], []⟩
def spec_PointsRight.xs4 : List XS := [⟨.exit 0, [], ⟨[.dead, .dead, .dead, .dead, .dead, .dead, .dead, .dead, .dead, .dead, .dead, .dead, .dead, .dead, .dead, .dead, .dead, .dead, .dead], []⟩⟩, ⟨.ret, [2], ⟨[.dead, .dead, .pv .bool, .dead, .dead, .dead, .dead, .dead, .dead, .dead, .dead, .dead, .dead, .dead, .dead, .dead, .dead, .dead, .dead], []⟩⟩]
noncomputable def spec_PointsRight.con (N : Nat) : Con := { modes := [.v], ptrs := [false], fn := fun ds k => match ds with | [d0] => castDm (.sl 2 (.int .i64)) .imm d0 fun x0 => bindO (spec_PointsRight N x0) fun r => k [⟨.bool, .imm, r⟩] [] | _ => none }
noncomputable def spec_PointsRight.cfg (N : Nat) : Cfg := { ty := tys, keep := [17], flt := [], elm := [(22, (.own .imm)), (23, (.own (.own .imm))), (24, (.own .imm)), (43, (.pr (.own .imm) .imm)), (44, (.pr (.own .imm) .imm)), (48, (.own .imm))], live := [(4, [0, 3])], ord := [], con := [((44, [.one]), spec_l01Point.con N)], loops := [(4, loopCon N spec_PointsRight.sk4 spec_PointsRight.xs4 (fun {R} => spec_PointsRight.l4 (R := R) N))], joins := [] }
theorem spec_PointsRight.cons (N : Nat) : ConsOk Try.prog (spec_PointsRight.cfg N).con := (consOk_cons (hb44) (spec_l01Point.ok N) (spec_l01Point.det N) consOk_nil)
theorem spec_PointsRight.h4 {R : Type} (N : Nat) (d : spec_PointsRight.sk4.D) (kn : spec_PointsRight.sk4.D → Option R) (kx : XD spec_PointsRight.xs4 → Option R) : roundK (spec_PointsRight.cfg N) N (nthLoop (fnBody Try.f24) 0) spec_PointsRight.sk4 spec_PointsRight.xs4 d kn kx = spec_PointsRight.l4 N d kn kx := by kernel_rfl
theorem spec_PointsRight.i4 (N : Nat) : LoopsOk Try.prog (spec_PointsRight.cfg N) (nthLoop (fnBody Try.f24) 0) := loopsL (l := []) (by kernel_rfl) trivial
theorem spec_PointsRight.o4 (N : Nat) : LoopOk Try.prog (nthLoop (fnBody Try.f24) 0) (loopCon N spec_PointsRight.sk4 spec_PointsRight.xs4 (fun {R} => spec_PointsRight.l4 (R := R) N)) := loop_ok (g := spec_PointsRight.cfg N) tys_ok (spec_PointsRight.cons N) mixed (spec_PointsRight.i4 N) (fun d kn kx => spec_PointsRight.h4 N d kn kx)
theorem spec_PointsRight.ls (N : Nat) : LoopsOk Try.prog (spec_PointsRight.cfg N) (fnBody Try.f24) := loopsL (l := [nthLoop (fnBody Try.f24) 0]) (by kernel_rfl) ⟨loopOne (L0 := loopCon N spec_PointsRight.sk4 spec_PointsRight.xs4 (fun {R} => spec_PointsRight.l4 (R := R) N)) (id := 4) (by kernel_rfl) (by kernel_rfl) (spec_PointsRight.o4 N), trivial⟩
theorem spec_PointsRight.q4 {R R' : Type} {N n : Nat} {d} {k} {g : R → Option R'} : bindF (loopP (spec_PointsRight.l4 N) n d k) g = loopP (spec_PointsRight.l4 N) n d fun e => bindF (k e) g := bindF_loopP (fun d kn kx => by simp only [spec_PointsRight.l4, bindF_ifB, bindF_bindO, bindF_pure, bindF_none, bindF_onSum]) n d k
theorem spec_PointsRight.b (N : Nat) (x0 : den (.sl 2 (.int .i64))) : body (spec_PointsRight.cfg N) N Try.f24 [.one] [.v] [(false, .imm)] [⟨(.sl 2 (.int .i64)), .imm, x0⟩] (fun r i => some (r, i)) = bindO (spec_PointsRight N x0) fun r => some ([⟨.bool, .imm, r⟩], []) := by
  show _ = bindF _ _
  conv => rhs; simp only [spec_PointsRight, bindF_ifB, bindF_bindO, bindF_pure, bindF_none, bindF_onSum, spec_PointsRight.q4]
  kernel_rfl
theorem spec_PointsRight.ok (N : Nat) : ConOk Try.prog 24 [.one] (spec_PointsRight.con N) := by
  refine conOk_mk (g := spec_PointsRight.cfg N) (N := N) (res := [(false, .imm)]) tys_ok (spec_PointsRight.cons N) mixed Try.func24 (spec_PointsRight.ls N) rfl rfl ?_
  intro ds R k y h
  cases ds with
  | nil => exact none_some h
  | cons d0 ds =>
  cases ds with
  | cons _ _ => exact none_some h
  | nil =>
  have h0 : (castDm (.sl 2 (.int .i64)) .imm d0 fun x0 => bindO (spec_PointsRight N x0) fun r => k [⟨.bool, .imm, r⟩] []) = some y := h
  clear h
  obtain ⟨x0, rfl, h1⟩ := castDm_eq h0
  exact con_fin (spec_PointsRight.b N x0) h1
theorem spec_PointsRight.det (N : Nat) : ConDet (spec_PointsRight.con N) := by
  intro ds R k y h
  cases ds with
  | nil => exact none_some h
  | cons d0 ds =>
  cases ds with
  | cons _ _ => exact none_some h
  | nil =>
  have h0 : (castDm (.sl 2 (.int .i64)) .imm d0 fun x0 => bindO (spec_PointsRight N x0) fun r => k [⟨.bool, .imm, r⟩] []) = some y := h
  clear h
  obtain ⟨x0, rfl, h1⟩ := castDm_eq h0
  obtain ⟨r, e, h⟩ := bindO_some h1
  refine ⟨_, _, h, fun k' => ?_⟩
  show (castDm (.sl 2 (.int .i64)) .imm (⟨(.sl 2 (.int .i64)), .imm, x0⟩ : Dy) fun x0 => bindO (spec_PointsRight N x0) fun r => k' [⟨.bool, .imm, r⟩] []) = _
  simp only [castDm_self]
  rw [e]
  rfl
noncomputable def spec_ClassOf.con (N : Nat) : Con := { modes := [.v], ptrs := [false], fn := fun ds k => match ds with | [d0] => castDm (.int .i64) .imm d0 fun x0 => bindO (spec_ClassOf N x0) fun r => k [⟨(.int .i64), .imm, r⟩] [] | _ => none }
noncomputable def spec_ClassOf.cfg (N : Nat) : Cfg := { ty := tys, keep := [4], flt := [], elm := [(22, (.own .imm)), (23, (.own (.own .imm))), (24, (.own .imm)), (43, (.pr (.own .imm) .imm)), (44, (.pr (.own .imm) .imm)), (48, (.own .imm))], live := [], ord := [], con := [((44, [.one]), spec_l01Point.con N)], loops := [], joins := [] }
theorem spec_ClassOf.cons (N : Nat) : ConsOk Try.prog (spec_ClassOf.cfg N).con := (consOk_cons (hb44) (spec_l01Point.ok N) (spec_l01Point.det N) consOk_nil)
theorem spec_ClassOf.ls (N : Nat) : LoopsOk Try.prog (spec_ClassOf.cfg N) (fnBody Try.f27) := loopsL (l := []) (by kernel_rfl) trivial
theorem spec_ClassOf.b (N : Nat) (x0 : den (.int .i64)) : body (spec_ClassOf.cfg N) N Try.f27 [.one] [.v] [(false, .imm)] [⟨(.int .i64), .imm, x0⟩] (fun r i => some (r, i)) = bindO (spec_ClassOf N x0) fun r => some ([⟨(.int .i64), .imm, r⟩], []) := by
  show _ = bindF _ _
  conv => rhs; simp only [spec_ClassOf, bindF_ifB, bindF_bindO, bindF_pure, bindF_none, bindF_onSum]
  kernel_rfl
theorem spec_ClassOf.ok (N : Nat) : ConOk Try.prog 27 [.one] (spec_ClassOf.con N) := by
  refine conOk_mk (g := spec_ClassOf.cfg N) (N := N) (res := [(false, .imm)]) tys_ok (spec_ClassOf.cons N) mixed Try.func27 (spec_ClassOf.ls N) rfl rfl ?_
  intro ds R k y h
  cases ds with
  | nil => exact none_some h
  | cons d0 ds =>
  cases ds with
  | cons _ _ => exact none_some h
  | nil =>
  have h0 : (castDm (.int .i64) .imm d0 fun x0 => bindO (spec_ClassOf N x0) fun r => k [⟨(.int .i64), .imm, r⟩] []) = some y := h
  clear h
  obtain ⟨x0, rfl, h1⟩ := castDm_eq h0
  exact con_fin (spec_ClassOf.b N x0) h1
theorem spec_ClassOf.det (N : Nat) : ConDet (spec_ClassOf.con N) := by
  intro ds R k y h
  cases ds with
  | nil => exact none_some h
  | cons d0 ds =>
  cases ds with
  | cons _ _ => exact none_some h
  | nil =>
  have h0 : (castDm (.int .i64) .imm d0 fun x0 => bindO (spec_ClassOf N x0) fun r => k [⟨(.int .i64), .imm, r⟩] []) = some y := h
  clear h
  obtain ⟨x0, rfl, h1⟩ := castDm_eq h0
  obtain ⟨r, e, h⟩ := bindO_some h1
  refine ⟨_, _, h, fun k' => ?_⟩
  show (castDm (.int .i64) .imm (⟨(.int .i64), .imm, x0⟩ : Dy) fun x0 => bindO (spec_ClassOf N x0) fun r => k' [⟨(.int .i64), .imm, r⟩] []) = _
  simp only [castDm_self]
  rw [e]
  rfl
def spec_CandsRight.sk4 : Skel := ⟨[.pv (.sl 24 (.sl 2 (.int .i64))), .dead, .dead, .pv (.int .i64), .dead, .dead, .dead, .dead, .dead, .dead, .dead, .dead, .dead, .dead, .dead, .dead, .dead, .dead, .dead, .dead, .dead, .dead, .dead, .dead, .dead, .dead, .dead, .dead, .dead, .dead, .dead, .dead, .dead, .dead, .dead, .dead, .dead, .dead, .dead, .dead, .dead, .dead, .dead, .dead, .dead, .dead], []⟩
def spec_CandsRight.xs4 : List XS := [⟨.exit 0, [], ⟨[.dead, .dead, .dead, .dead, .dead, .dead, .dead, .dead, .dead, .dead, .dead, .dead, .dead, .dead, .dead, .dead, .dead, .dead, .dead, .dead, .dead, .dead, .dead, .dead, .dead, .dead, .dead, .dead, .dead, .dead, .dead, .dead, .dead, .dead, .dead, .dead, .dead, .dead, .dead, .dead, .dead, .dead, .dead, .dead, .dead, .dead], []⟩⟩, ⟨.ret, [2], ⟨[.dead, .dead, .pv .bool, .dead, .dead, .dead, .dead, .dead, .dead, .dead, .dead, .dead, .dead, .dead, .dead, .dead, .dead, .dead, .dead, .dead, .dead, .dead, .dead, .dead, .dead, .dead, .dead, .dead, .dead, .dead, .dead, .dead, .dead, .dead, .dead, .dead, .dead, .dead, .dead, .dead, .dead, .dead, .dead, .dead, .dead, .dead], []⟩⟩]
def spec_CandsRight.sk9 : Skel := ⟨[.pv (.sl 24 (.sl 2 (.int .i64))), .dead, .dead, .pv (.int .i64), .pv (.int .i64), .dead, .dead, .dead, .dead, .dead, .dead, .dead, .dead, .dead, .dead, .dead, .dead, .dead, .dead, .dead, .dead, .dead, .dead, .dead, .dead, .dead, .dead, .dead, .dead, .dead, .dead, .dead, .dead, .dead, .dead, .dead, .dead, .dead, .dead, .dead, .dead, .dead, .dead, .dead, .dead, .dead], []⟩
def spec_CandsRight.xs9 : List XS := [⟨.exit 2, [0, 3, 21, 22, 23, 24, 25, 26], ⟨[.pv (.sl 24 (.sl 2 (.int .i64))), .dead, .dead, .pv (.int .i64), .dead, .dead, .dead, .dead, .dead, .dead, .dead, .dead, .dead, .dead, .dead, .dead, .dead, .dead, .dead, .dead, .dead, .dead, .dead, .dead, .dead, .dead, .dead, .dead, .dead, .dead, .dead, .dead, .dead, .dead, .dead, .dead, .dead, .dead, .dead, .dead, .dead, .dead, .dead, .dead, .dead, .dead], []⟩⟩, ⟨.ret, [2], ⟨[.dead, .dead, .pv .bool, .dead, .dead, .dead, .dead, .dead, .dead, .dead, .dead, .dead, .dead, .dead, .dead, .dead, .dead, .dead, .dead, .dead, .dead, .dead, .dead, .dead, .dead, .dead, .dead, .dead, .dead, .dead, .dead, .dead, .dead, .dead, .dead, .dead, .dead, .dead, .dead, .dead, .dead, .dead, .dead, .dead, .dead, .dead], []⟩⟩]
noncomputable def spec_CandsRight.con (N : Nat) : Con := { modes := [.v], ptrs := [false], fn := fun ds k => match ds with | [d0] => castDm (.sl 24 (.sl 2 (.int .i64))) .imm d0 fun x0 => bindO (spec_CandsRight N x0) fun r => k [⟨.bool, .imm, r⟩] [] | _ => none }
noncomputable def spec_CandsRight.cfg (N : Nat) : Cfg := { ty := tys, keep := [44], flt := [], elm := [(22, (.own .imm)), (23, (.own (.own .imm))), (24, (.own .imm)), (43, (.pr (.own .imm) .imm)), (44, (.pr (.own .imm) .imm)), (48, (.own .imm))], live := [(9, [0, 3, 4, 21, 22, 23, 24, 25, 26]), (4, [0, 3, 21, 22, 23, 24, 25, 26])], ord := [], con := [((27, [.one]), spec_ClassOf.con N)], loops := [(4, loopCon N spec_CandsRight.sk4 spec_CandsRight.xs4 (fun {R} => spec_CandsRight.l4 (R := R) N)), (9, loopCon N spec_CandsRight.sk9 spec_CandsRight.xs9 (fun {R} => spec_CandsRight.l9 (R := R) N))], joins := [] }
theorem spec_CandsRight.cons (N : Nat) : ConsOk Try.prog (spec_CandsRight.cfg N).con := (consOk_cons (hb27) (spec_ClassOf.ok N) (spec_ClassOf.det N) consOk_nil)
theorem spec_CandsRight.h9 {R : Type} (N : Nat) (d : spec_CandsRight.sk9.D) (kn : spec_CandsRight.sk9.D → Option R) (kx : XD spec_CandsRight.xs9 → Option R) : roundK (spec_CandsRight.cfg N) N (nthLoop (fnBody Try.f12) 1) spec_CandsRight.sk9 spec_CandsRight.xs9 d kn kx = spec_CandsRight.l9 N d kn kx := by kernel_rfl
theorem spec_CandsRight.i9 (N : Nat) : LoopsOk Try.prog (spec_CandsRight.cfg N) (nthLoop (fnBody Try.f12) 1) := loopsL (l := []) (by kernel_rfl) trivial
theorem spec_CandsRight.o9 (N : Nat) : LoopOk Try.prog (nthLoop (fnBody Try.f12) 1) (loopCon N spec_CandsRight.sk9 spec_CandsRight.xs9 (fun {R} => spec_CandsRight.l9 (R := R) N)) := loop_ok (g := spec_CandsRight.cfg N) tys_ok (spec_CandsRight.cons N) mixed (spec_CandsRight.i9 N) (fun d kn kx => spec_CandsRight.h9 N d kn kx)
theorem spec_CandsRight.h4 {R : Type} (N : Nat) (d : spec_CandsRight.sk4.D) (kn : spec_CandsRight.sk4.D → Option R) (kx : XD spec_CandsRight.xs4 → Option R) : roundK (spec_CandsRight.cfg N) N (nthLoop (fnBody Try.f12) 0) spec_CandsRight.sk4 spec_CandsRight.xs4 d kn kx = spec_CandsRight.l4 N d kn kx := by kernel_rfl
theorem spec_CandsRight.i4 (N : Nat) : LoopsOk Try.prog (spec_CandsRight.cfg N) (nthLoop (fnBody Try.f12) 0) := loopsL (l := [nthLoop (fnBody Try.f12) 1]) (by kernel_rfl) ⟨loopOne (L0 := loopCon N spec_CandsRight.sk9 spec_CandsRight.xs9 (fun {R} => spec_CandsRight.l9 (R := R) N)) (id := 9) (by kernel_rfl) (by kernel_rfl) (spec_CandsRight.o9 N), trivial⟩
theorem spec_CandsRight.o4 (N : Nat) : LoopOk Try.prog (nthLoop (fnBody Try.f12) 0) (loopCon N spec_CandsRight.sk4 spec_CandsRight.xs4 (fun {R} => spec_CandsRight.l4 (R := R) N)) := loop_ok (g := spec_CandsRight.cfg N) tys_ok (spec_CandsRight.cons N) mixed (spec_CandsRight.i4 N) (fun d kn kx => spec_CandsRight.h4 N d kn kx)
theorem spec_CandsRight.ls (N : Nat) : LoopsOk Try.prog (spec_CandsRight.cfg N) (fnBody Try.f12) := loopsL (l := [nthLoop (fnBody Try.f12) 0, nthLoop (fnBody Try.f12) 1]) (by kernel_rfl) ⟨loopOne (L0 := loopCon N spec_CandsRight.sk4 spec_CandsRight.xs4 (fun {R} => spec_CandsRight.l4 (R := R) N)) (id := 4) (by kernel_rfl) (by kernel_rfl) (spec_CandsRight.o4 N), ⟨loopOne (L0 := loopCon N spec_CandsRight.sk9 spec_CandsRight.xs9 (fun {R} => spec_CandsRight.l9 (R := R) N)) (id := 9) (by kernel_rfl) (by kernel_rfl) (spec_CandsRight.o9 N), trivial⟩⟩
theorem spec_CandsRight.q9 {R R' : Type} {N n : Nat} {d} {k} {g : R → Option R'} : bindF (loopP (spec_CandsRight.l9 N) n d k) g = loopP (spec_CandsRight.l9 N) n d fun e => bindF (k e) g := bindF_loopP (fun d kn kx => by simp only [spec_CandsRight.l9, bindF_ifB, bindF_bindO, bindF_pure, bindF_none, bindF_onSum]) n d k
theorem spec_CandsRight.q4 {R R' : Type} {N n : Nat} {d} {k} {g : R → Option R'} : bindF (loopP (spec_CandsRight.l4 N) n d k) g = loopP (spec_CandsRight.l4 N) n d fun e => bindF (k e) g := bindF_loopP (fun d kn kx => by simp only [spec_CandsRight.l4, bindF_ifB, bindF_bindO, bindF_pure, bindF_none, bindF_onSum, spec_CandsRight.q9]) n d k
theorem spec_CandsRight.b (N : Nat) (x0 : den (.sl 24 (.sl 2 (.int .i64)))) : body (spec_CandsRight.cfg N) N Try.f12 [.one] [.v] [(false, .imm)] [⟨(.sl 24 (.sl 2 (.int .i64))), .imm, x0⟩] (fun r i => some (r, i)) = bindO (spec_CandsRight N x0) fun r => some ([⟨.bool, .imm, r⟩], []) := by
  show _ = bindF _ _
  conv => rhs; simp only [spec_CandsRight, bindF_ifB, bindF_bindO, bindF_pure, bindF_none, bindF_onSum, spec_CandsRight.q4, spec_CandsRight.q9]
  kernel_rfl
theorem spec_CandsRight.ok (N : Nat) : ConOk Try.prog 12 [.one] (spec_CandsRight.con N) := by
  refine conOk_mk (g := spec_CandsRight.cfg N) (N := N) (res := [(false, .imm)]) tys_ok (spec_CandsRight.cons N) mixed Try.func12 (spec_CandsRight.ls N) rfl rfl ?_
  intro ds R k y h
  cases ds with
  | nil => exact none_some h
  | cons d0 ds =>
  cases ds with
  | cons _ _ => exact none_some h
  | nil =>
  have h0 : (castDm (.sl 24 (.sl 2 (.int .i64))) .imm d0 fun x0 => bindO (spec_CandsRight N x0) fun r => k [⟨.bool, .imm, r⟩] []) = some y := h
  clear h
  obtain ⟨x0, rfl, h1⟩ := castDm_eq h0
  exact con_fin (spec_CandsRight.b N x0) h1
theorem spec_CandsRight.det (N : Nat) : ConDet (spec_CandsRight.con N) := by
  intro ds R k y h
  cases ds with
  | nil => exact none_some h
  | cons d0 ds =>
  cases ds with
  | cons _ _ => exact none_some h
  | nil =>
  have h0 : (castDm (.sl 24 (.sl 2 (.int .i64))) .imm d0 fun x0 => bindO (spec_CandsRight N x0) fun r => k [⟨.bool, .imm, r⟩] []) = some y := h
  clear h
  obtain ⟨x0, rfl, h1⟩ := castDm_eq h0
  obtain ⟨r, e, h⟩ := bindO_some h1
  refine ⟨_, _, h, fun k' => ?_⟩
  show (castDm (.sl 24 (.sl 2 (.int .i64))) .imm (⟨(.sl 24 (.sl 2 (.int .i64))), .imm, x0⟩ : Dy) fun x0 => bindO (spec_CandsRight N x0) fun r => k' [⟨.bool, .imm, r⟩] []) = _
  simp only [castDm_self]
  rw [e]
  rfl
def spec_l01Same.sk4 : Skel := ⟨[.pv (.sl 2 (.int .i64)), .pv (.sl 2 (.int .i64)), .dead, .dead, .dead, .pv (.int .i64), .dead, .dead, .dead, .dead, .dead, .dead, .dead, .dead, .dead, .dead, .dead, .dead, .dead, .dead, .dead, .dead, .dead, .dead, .dead, .dead], []⟩
def spec_l01Same.xs4 : List XS := [⟨.exit 0, [], ⟨[.dead, .dead, .dead, .dead, .dead, .dead, .dead, .dead, .dead, .dead, .dead, .dead, .dead, .dead, .dead, .dead, .dead, .dead, .dead, .dead, .dead, .dead, .dead, .dead, .dead, .dead], []⟩⟩, ⟨.ret, [4], ⟨[.dead, .dead, .dead, .dead, .pv .bool, .dead, .dead, .dead, .dead, .dead, .dead, .dead, .dead, .dead, .dead, .dead, .dead, .dead, .dead, .dead, .dead, .dead, .dead, .dead, .dead, .dead], []⟩⟩]
noncomputable def spec_l01Same.con (N : Nat) : Con := { modes := [.v, .v], ptrs := [false], fn := fun ds k => match ds with | [d0, d1] => castDm (.sl 2 (.int .i64)) .imm d0 fun x0 => castDm (.sl 2 (.int .i64)) .imm d1 fun x1 => bindO (spec_l01Same N x0 x1) fun r => k [⟨.bool, .imm, r⟩] [] | _ => none }
noncomputable def spec_l01Same.cfg (N : Nat) : Cfg := { ty := tys, keep := [], flt := [], elm := [(22, (.own .imm)), (23, (.own (.own .imm))), (24, (.own .imm)), (43, (.pr (.own .imm) .imm)), (44, (.pr (.own .imm) .imm)), (48, (.own .imm))], live := [(4, [0, 1, 5])], ord := [(6, [0, 1, 2, 3, 4, 5, 6, 7, 8])], con := [], loops := [(4, loopCon N spec_l01Same.sk4 spec_l01Same.xs4 (fun {R} => spec_l01Same.l4 (R := R) N))], joins := [] }
theorem spec_l01Same.cons (N : Nat) : ConsOk Try.prog (spec_l01Same.cfg N).con := consOk_nil
theorem spec_l01Same.h4 {R : Type} (N : Nat) (d : spec_l01Same.sk4.D) (kn : spec_l01Same.sk4.D → Option R) (kx : XD spec_l01Same.xs4 → Option R) : roundK (spec_l01Same.cfg N) N (nthLoop (fnBody Try.f45) 0) spec_l01Same.sk4 spec_l01Same.xs4 d kn kx = spec_l01Same.l4 N d kn kx := by kernel_rfl
theorem spec_l01Same.i4 (N : Nat) : LoopsOk Try.prog (spec_l01Same.cfg N) (nthLoop (fnBody Try.f45) 0) := loopsL (l := []) (by kernel_rfl) trivial
theorem spec_l01Same.o4 (N : Nat) : LoopOk Try.prog (nthLoop (fnBody Try.f45) 0) (loopCon N spec_l01Same.sk4 spec_l01Same.xs4 (fun {R} => spec_l01Same.l4 (R := R) N)) := loop_ok (g := spec_l01Same.cfg N) tys_ok (spec_l01Same.cons N) mixed (spec_l01Same.i4 N) (fun d kn kx => spec_l01Same.h4 N d kn kx)
theorem spec_l01Same.ls (N : Nat) : LoopsOk Try.prog (spec_l01Same.cfg N) (fnBody Try.f45) := loopsL (l := [nthLoop (fnBody Try.f45) 0]) (by kernel_rfl) ⟨loopOne (L0 := loopCon N spec_l01Same.sk4 spec_l01Same.xs4 (fun {R} => spec_l01Same.l4 (R := R) N)) (id := 4) (by kernel_rfl) (by kernel_rfl) (spec_l01Same.o4 N), trivial⟩
theorem spec_l01Same.q4 {R R' : Type} {N n : Nat} {d} {k} {g : R → Option R'} : bindF (loopP (spec_l01Same.l4 N) n d k) g = loopP (spec_l01Same.l4 N) n d fun e => bindF (k e) g := bindF_loopP (fun d kn kx => by simp only [spec_l01Same.l4, bindF_ifB, bindF_bindO, bindF_pure, bindF_none, bindF_onSum]) n d k
theorem spec_l01Same.b (N : Nat) (x0 : den (.sl 2 (.int .i64))) (x1 : den (.sl 2 (.int .i64))) : body (spec_l01Same.cfg N) N Try.f45 [.one, .one] [.v, .v] [(false, .imm)] [⟨(.sl 2 (.int .i64)), .imm, x0⟩, ⟨(.sl 2 (.int .i64)), .imm, x1⟩] (fun r i => some (r, i)) = bindO (spec_l01Same N x0 x1) fun r => some ([⟨.bool, .imm, r⟩], []) := by
  show _ = bindF _ _
  conv => rhs; simp only [spec_l01Same, bindF_ifB, bindF_bindO, bindF_pure, bindF_none, bindF_onSum, spec_l01Same.q4]
  kernel_rfl
theorem spec_l01Same.ok (N : Nat) : ConOk Try.prog 45 [.one, .one] (spec_l01Same.con N) := by
  refine conOk_mk (g := spec_l01Same.cfg N) (N := N) (res := [(false, .imm)]) tys_ok (spec_l01Same.cons N) mixed Try.func45 (spec_l01Same.ls N) rfl rfl ?_
  intro ds R k y h
  cases ds with
  | nil => exact none_some h
  | cons d0 ds =>
  cases ds with
  | nil => exact none_some h
  | cons d1 ds =>
  cases ds with
  | cons _ _ => exact none_some h
  | nil =>
  have h0 : (castDm (.sl 2 (.int .i64)) .imm d0 fun x0 => castDm (.sl 2 (.int .i64)) .imm d1 fun x1 => bindO (spec_l01Same N x0 x1) fun r => k [⟨.bool, .imm, r⟩] []) = some y := h
  clear h
  obtain ⟨x0, rfl, h1⟩ := castDm_eq h0
  obtain ⟨x1, rfl, h2⟩ := castDm_eq h1
  exact con_fin (spec_l01Same.b N x0 x1) h2
theorem spec_l01Same.det (N : Nat) : ConDet (spec_l01Same.con N) := by
  intro ds R k y h
  cases ds with
  | nil => exact none_some h
  | cons d0 ds =>
  cases ds with
  | nil => exact none_some h
  | cons d1 ds =>
  cases ds with
  | cons _ _ => exact none_some h
  | nil =>
  have h0 : (castDm (.sl 2 (.int .i64)) .imm d0 fun x0 => castDm (.sl 2 (.int .i64)) .imm d1 fun x1 => bindO (spec_l01Same N x0 x1) fun r => k [⟨.bool, .imm, r⟩] []) = some y := h
  clear h
  obtain ⟨x0, rfl, h1⟩ := castDm_eq h0
  obtain ⟨x1, rfl, h2⟩ := castDm_eq h1
  obtain ⟨r, e, h⟩ := bindO_some h2
  refine ⟨_, _, h, fun k' => ?_⟩
  show (castDm (.sl 2 (.int .i64)) .imm (⟨(.sl 2 (.int .i64)), .imm, x0⟩ : Dy) fun x0 => castDm (.sl 2 (.int .i64)) .imm (⟨(.sl 2 (.int .i64)), .imm, x1⟩ : Dy) fun x1 => bindO (spec_l01Same N x0 x1) fun r => k' [⟨.bool, .imm, r⟩] []) = _
  simp only [castDm_self]
  rw [e]
  rfl
noncomputable def spec_l06Begins.con (N : Nat) : Con := { modes := [.v, .v], ptrs := [false], fn := fun ds k => match ds with | [d0, d1] => castDm (.sl 2 (.int .i64)) .imm d0 fun x0 => castDm (.sl 2 (.int .i64)) .imm d1 fun x1 => bindO (spec_l06Begins N x0 x1) fun r => k [⟨.bool, .imm, r⟩] [] | _ => none }
noncomputable def spec_l06Begins.cfg (N : Nat) : Cfg := { ty := tys, keep := [16], flt := [], elm := [(22, (.own .imm)), (23, (.own (.own .imm))), (24, (.own .imm)), (43, (.pr (.own .imm) .imm)), (44, (.pr (.own .imm) .imm)), (48, (.own .imm))], live := [], ord := [], con := [((45, [.one, .one]), spec_l01Same.con N)], loops := [], joins := [] }
theorem spec_l06Begins.cons (N : Nat) : ConsOk Try.prog (spec_l06Begins.cfg N).con := (consOk_cons (hb45) (spec_l01Same.ok N) (spec_l01Same.det N) consOk_nil)
theorem spec_l06Begins.ls (N : Nat) : LoopsOk Try.prog (spec_l06Begins.cfg N) (fnBody Try.f26) := loopsL (l := []) (by kernel_rfl) trivial
theorem spec_l06Begins.b (N : Nat) (x0 : den (.sl 2 (.int .i64))) (x1 : den (.sl 2 (.int .i64))) : body (spec_l06Begins.cfg N) N Try.f26 [.one, .one] [.v, .v] [(false, .imm)] [⟨(.sl 2 (.int .i64)), .imm, x0⟩, ⟨(.sl 2 (.int .i64)), .imm, x1⟩] (fun r i => some (r, i)) = bindO (spec_l06Begins N x0 x1) fun r => some ([⟨.bool, .imm, r⟩], []) := by
  show _ = bindF _ _
  conv => rhs; simp only [spec_l06Begins, bindF_ifB, bindF_bindO, bindF_pure, bindF_none, bindF_onSum]
  kernel_rfl
theorem spec_l06Begins.ok (N : Nat) : ConOk Try.prog 26 [.one, .one] (spec_l06Begins.con N) := by
  refine conOk_mk (g := spec_l06Begins.cfg N) (N := N) (res := [(false, .imm)]) tys_ok (spec_l06Begins.cons N) mixed Try.func26 (spec_l06Begins.ls N) rfl rfl ?_
  intro ds R k y h
  cases ds with
  | nil => exact none_some h
  | cons d0 ds =>
  cases ds with
  | nil => exact none_some h
  | cons d1 ds =>
  cases ds with
  | cons _ _ => exact none_some h
  | nil =>
  have h0 : (castDm (.sl 2 (.int .i64)) .imm d0 fun x0 => castDm (.sl 2 (.int .i64)) .imm d1 fun x1 => bindO (spec_l06Begins N x0 x1) fun r => k [⟨.bool, .imm, r⟩] []) = some y := h
  clear h
  obtain ⟨x0, rfl, h1⟩ := castDm_eq h0
  obtain ⟨x1, rfl, h2⟩ := castDm_eq h1
  exact con_fin (spec_l06Begins.b N x0 x1) h2
theorem spec_l06Begins.det (N : Nat) : ConDet (spec_l06Begins.con N) := by
  intro ds R k y h
  cases ds with
  | nil => exact none_some h
  | cons d0 ds =>
  cases ds with
  | nil => exact none_some h
  | cons d1 ds =>
  cases ds with
  | cons _ _ => exact none_some h
  | nil =>
  have h0 : (castDm (.sl 2 (.int .i64)) .imm d0 fun x0 => castDm (.sl 2 (.int .i64)) .imm d1 fun x1 => bindO (spec_l06Begins N x0 x1) fun r => k [⟨.bool, .imm, r⟩] []) = some y := h
  clear h
  obtain ⟨x0, rfl, h1⟩ := castDm_eq h0
  obtain ⟨x1, rfl, h2⟩ := castDm_eq h1
  obtain ⟨r, e, h⟩ := bindO_some h2
  refine ⟨_, _, h, fun k' => ?_⟩
  show (castDm (.sl 2 (.int .i64)) .imm (⟨(.sl 2 (.int .i64)), .imm, x0⟩ : Dy) fun x0 => castDm (.sl 2 (.int .i64)) .imm (⟨(.sl 2 (.int .i64)), .imm, x1⟩ : Dy) fun x1 => bindO (spec_l06Begins N x0 x1) fun r => k' [⟨.bool, .imm, r⟩] []) = _
  simp only [castDm_self]
  rw [e]
  rfl
def spec_CompMatch.sk5 : Skel := ⟨[.pv (.sl 24 (.sl 2 (.int .i64))), .pv (.sl 2 (.int .i64)), .dead, .dead, .dead, .ov 50 [], .pv (.int .i64), .dead, .dead, .dead, .dead, .dead, .dead, .dead, .dead, .dead, .dead, .dead, .dead, .dead, .dead, .dead, .dead, .dead, .dead, .dead, .dead, .dead, .dead, .dead, .dead, .dead, .dead, .dead, .dead, .dead, .dead, .dead, .dead, .dead, .dead, .dead, .dead, .dead], [⟨50, (.sl 2 (.int .i64)), (.own .imm), false, false⟩]⟩
def spec_CompMatch.xs5 : List XS := [⟨.exit 0, [5], ⟨[.dead, .dead, .dead, .dead, .dead, .ov 50 [], .dead, .dead, .dead, .dead, .dead, .dead, .dead, .dead, .dead, .dead, .dead, .dead, .dead, .dead, .dead, .dead, .dead, .dead, .dead, .dead, .dead, .dead, .dead, .dead, .dead, .dead, .dead, .dead, .dead, .dead, .dead, .dead, .dead, .dead, .dead, .dead, .dead, .dead], [⟨50, (.sl 2 (.int .i64)), (.own .imm), false, false⟩]⟩⟩]
noncomputable def spec_CompMatch.con (N : Nat) : Con := { modes := [.v, .v], ptrs := [false], fn := fun ds k => match ds with | [d0, d1] => castDm (.sl 24 (.sl 2 (.int .i64))) .imm d0 fun x0 => castDm (.sl 2 (.int .i64)) .imm d1 fun x1 => bindO (spec_CompMatch N x0 x1) fun r => k [⟨(.sl 2 (.int .i64)), (.own .imm), r⟩] [] | _ => none }
noncomputable def spec_CompMatch.cfg (N : Nat) : Cfg := { ty := tys, keep := [18, 23, 38], flt := [], elm := [(22, (.own .imm)), (23, (.own (.own .imm))), (24, (.own .imm)), (43, (.pr (.own .imm) .imm)), (44, (.pr (.own .imm) .imm)), (48, (.own .imm))], live := [(5, [0, 1, 5, 6])], ord := [], con := [((12, [.one]), spec_CandsRight.con N), ((24, [.one]), spec_PointsRight.con N), ((26, [.one, .one]), spec_l06Begins.con N)], loops := [(5, loopCon N spec_CompMatch.sk5 spec_CompMatch.xs5 (fun {R} => spec_CompMatch.l5 (R := R) N))], joins := [(6, [⟨.normal, [0, 1, 5, 6], ⟨[.pv (.sl 24 (.sl 2 (.int .i64))), .pv (.sl 2 (.int .i64)), .dead, .dead, .dead, .ov 50 [], .pv (.int .i64), .dead, .dead, .dead, .dead, .dead, .dead, .dead, .dead, .dead, .dead, .dead, .dead, .dead, .dead, .dead, .dead, .dead, .dead, .dead, .dead, .dead, .dead, .dead, .dead, .dead, .dead, .dead, .dead, .dead, .dead, .dead, .dead, .dead, .dead, .dead, .dead, .dead], [⟨50, (.sl 2 (.int .i64)), (.own .imm), false, false⟩]⟩⟩])] }
theorem spec_CompMatch.cons (N : Nat) : ConsOk Try.prog (spec_CompMatch.cfg N).con := (consOk_cons (hb12) (spec_CandsRight.ok N) (spec_CandsRight.det N) (consOk_cons (hb24) (spec_PointsRight.ok N) (spec_PointsRight.det N) (consOk_cons (hb26) (spec_l06Begins.ok N) (spec_l06Begins.det N) consOk_nil)))
theorem spec_CompMatch.h5 {R : Type} (N : Nat) (d : spec_CompMatch.sk5.D) (kn : spec_CompMatch.sk5.D → Option R) (kx : XD spec_CompMatch.xs5 → Option R) : roundK (spec_CompMatch.cfg N) N (nthLoop (fnBody Try.f11) 0) spec_CompMatch.sk5 spec_CompMatch.xs5 d kn kx = spec_CompMatch.l5 N d kn kx := by kernel_rfl
theorem spec_CompMatch.i5 (N : Nat) : LoopsOk Try.prog (spec_CompMatch.cfg N) (nthLoop (fnBody Try.f11) 0) := loopsL (l := []) (by kernel_rfl) trivial
theorem spec_CompMatch.o5 (N : Nat) : LoopOk Try.prog (nthLoop (fnBody Try.f11) 0) (loopCon N spec_CompMatch.sk5 spec_CompMatch.xs5 (fun {R} => spec_CompMatch.l5 (R := R) N)) := loop_ok (g := spec_CompMatch.cfg N) tys_ok (spec_CompMatch.cons N) mixed (spec_CompMatch.i5 N) (fun d kn kx => spec_CompMatch.h5 N d kn kx)
theorem spec_CompMatch.ls (N : Nat) : LoopsOk Try.prog (spec_CompMatch.cfg N) (fnBody Try.f11) := loopsL (l := [nthLoop (fnBody Try.f11) 0]) (by kernel_rfl) ⟨loopOne (L0 := loopCon N spec_CompMatch.sk5 spec_CompMatch.xs5 (fun {R} => spec_CompMatch.l5 (R := R) N)) (id := 5) (by kernel_rfl) (by kernel_rfl) (spec_CompMatch.o5 N), trivial⟩
theorem spec_CompMatch.q5 {R R' : Type} {N n : Nat} {d} {k} {g : R → Option R'} : bindF (loopP (spec_CompMatch.l5 N) n d k) g = loopP (spec_CompMatch.l5 N) n d fun e => bindF (k e) g := bindF_loopP (fun d kn kx => by simp only [spec_CompMatch.l5, bindF_ifB, bindF_bindO, bindF_pure, bindF_none, bindF_onSum]) n d k
theorem spec_CompMatch.b (N : Nat) (x0 : den (.sl 24 (.sl 2 (.int .i64)))) (x1 : den (.sl 2 (.int .i64))) : body (spec_CompMatch.cfg N) N Try.f11 [.one, .one] [.v, .v] [(false, (.own .imm))] [⟨(.sl 24 (.sl 2 (.int .i64))), .imm, x0⟩, ⟨(.sl 2 (.int .i64)), .imm, x1⟩] (fun r i => some (r, i)) = bindO (spec_CompMatch N x0 x1) fun r => some ([⟨(.sl 2 (.int .i64)), (.own .imm), r⟩], []) := by
  show _ = bindF _ _
  conv => rhs; simp only [spec_CompMatch, bindF_ifB, bindF_bindO, bindF_pure, bindF_none, bindF_onSum, spec_CompMatch.q5]
  kernel_rfl
theorem spec_CompMatch.ok (N : Nat) : ConOk Try.prog 11 [.one, .one] (spec_CompMatch.con N) := by
  refine conOk_mk (g := spec_CompMatch.cfg N) (N := N) (res := [(false, (.own .imm))]) tys_ok (spec_CompMatch.cons N) mixed Try.func11 (spec_CompMatch.ls N) rfl rfl ?_
  intro ds R k y h
  cases ds with
  | nil => exact none_some h
  | cons d0 ds =>
  cases ds with
  | nil => exact none_some h
  | cons d1 ds =>
  cases ds with
  | cons _ _ => exact none_some h
  | nil =>
  have h0 : (castDm (.sl 24 (.sl 2 (.int .i64))) .imm d0 fun x0 => castDm (.sl 2 (.int .i64)) .imm d1 fun x1 => bindO (spec_CompMatch N x0 x1) fun r => k [⟨(.sl 2 (.int .i64)), (.own .imm), r⟩] []) = some y := h
  clear h
  obtain ⟨x0, rfl, h1⟩ := castDm_eq h0
  obtain ⟨x1, rfl, h2⟩ := castDm_eq h1
  exact con_fin (spec_CompMatch.b N x0 x1) h2
theorem spec_CompMatch.det (N : Nat) : ConDet (spec_CompMatch.con N) := by
  intro ds R k y h
  cases ds with
  | nil => exact none_some h
  | cons d0 ds =>
  cases ds with
  | nil => exact none_some h
  | cons d1 ds =>
  cases ds with
  | cons _ _ => exact none_some h
  | nil =>
  have h0 : (castDm (.sl 24 (.sl 2 (.int .i64))) .imm d0 fun x0 => castDm (.sl 2 (.int .i64)) .imm d1 fun x1 => bindO (spec_CompMatch N x0 x1) fun r => k [⟨(.sl 2 (.int .i64)), (.own .imm), r⟩] []) = some y := h
  clear h
  obtain ⟨x0, rfl, h1⟩ := castDm_eq h0
  obtain ⟨x1, rfl, h2⟩ := castDm_eq h1
  obtain ⟨r, e, h⟩ := bindO_some h2
  refine ⟨_, _, h, fun k' => ?_⟩
  show (castDm (.sl 24 (.sl 2 (.int .i64))) .imm (⟨(.sl 24 (.sl 2 (.int .i64))), .imm, x0⟩ : Dy) fun x0 => castDm (.sl 2 (.int .i64)) .imm (⟨(.sl 2 (.int .i64)), .imm, x1⟩ : Dy) fun x1 => bindO (spec_CompMatch N x0 x1) fun r => k' [⟨(.sl 2 (.int .i64)), (.own .imm), r⟩] []) = _
  simp only [castDm_self]
  rw [e]
  rfl
noncomputable def spec_l01Copy.con (N : Nat) : Con := { modes := [.v], ptrs := [false], fn := fun ds k => match ds with | [d0] => castDm (.sl 2 (.int .i64)) .imm d0 fun x0 => bindO (spec_l01Copy N x0) fun r => k [⟨(.sl 2 (.int .i64)), (.own .imm), r⟩] [] | _ => none }
noncomputable def spec_l01Copy.cfg (N : Nat) : Cfg := { ty := tys, keep := [], flt := [], elm := [(22, (.own .imm)), (23, (.own (.own .imm))), (24, (.own .imm)), (43, (.pr (.own .imm) .imm)), (44, (.pr (.own .imm) .imm)), (48, (.own .imm))], live := [], ord := [], con := [], loops := [], joins := [] }
theorem spec_l01Copy.cons (N : Nat) : ConsOk Try.prog (spec_l01Copy.cfg N).con := consOk_nil
theorem spec_l01Copy.ls (N : Nat) : LoopsOk Try.prog (spec_l01Copy.cfg N) (fnBody Try.f25) := loopsL (l := []) (by kernel_rfl) trivial
theorem spec_l01Copy.b (N : Nat) (x0 : den (.sl 2 (.int .i64))) : body (spec_l01Copy.cfg N) N Try.f25 [.one] [.v] [(false, (.own .imm))] [⟨(.sl 2 (.int .i64)), .imm, x0⟩] (fun r i => some (r, i)) = bindO (spec_l01Copy N x0) fun r => some ([⟨(.sl 2 (.int .i64)), (.own .imm), r⟩], []) := by
  show _ = bindF _ _
  conv => rhs; simp only [spec_l01Copy, bindF_ifB, bindF_bindO, bindF_pure, bindF_none, bindF_onSum]
  kernel_rfl
theorem spec_l01Copy.ok (N : Nat) : ConOk Try.prog 25 [.one] (spec_l01Copy.con N) := by
  refine conOk_mk (g := spec_l01Copy.cfg N) (N := N) (res := [(false, (.own .imm))]) tys_ok (spec_l01Copy.cons N) mixed Try.func25 (spec_l01Copy.ls N) rfl rfl ?_
  intro ds R k y h
  cases ds with
  | nil => exact none_some h
  | cons d0 ds =>
  cases ds with
  | cons _ _ => exact none_some h
  | nil =>
  have h0 : (castDm (.sl 2 (.int .i64)) .imm d0 fun x0 => bindO (spec_l01Copy N x0) fun r => k [⟨(.sl 2 (.int .i64)), (.own .imm), r⟩] []) = some y := h
  clear h
  obtain ⟨x0, rfl, h1⟩ := castDm_eq h0
  exact con_fin (spec_l01Copy.b N x0) h1
theorem spec_l01Copy.det (N : Nat) : ConDet (spec_l01Copy.con N) := by
  intro ds R k y h
  cases ds with
  | nil => exact none_some h
  | cons d0 ds =>
  cases ds with
  | cons _ _ => exact none_some h
  | nil =>
  have h0 : (castDm (.sl 2 (.int .i64)) .imm d0 fun x0 => bindO (spec_l01Copy N x0) fun r => k [⟨(.sl 2 (.int .i64)), (.own .imm), r⟩] []) = some y := h
  clear h
  obtain ⟨x0, rfl, h1⟩ := castDm_eq h0
  obtain ⟨r, e, h⟩ := bindO_some h1
  refine ⟨_, _, h, fun k' => ?_⟩
  show (castDm (.sl 2 (.int .i64)) .imm (⟨(.sl 2 (.int .i64)), .imm, x0⟩ : Dy) fun x0 => bindO (spec_l01Copy N x0) fun r => k' [⟨(.sl 2 (.int .i64)), (.own .imm), r⟩] []) = _
  simp only [castDm_self]
  rw [e]
  rfl
end Go.AE.F
