/- The printed functions are what the program comes to: contracts. -/
import Derived.Test.YtaaclbdpadgpiaaLHistoryL1
namespace Go.AE.F
open Go.AE Go.Proofs
set_option maxRecDepth 100000
noncomputable def impl_PointsRight_c1.con (N : Nat) : Con := { modes := [.v], ptrs := [false], fn := fun ds k => match ds with | [d0] => castDm (.int .i64) .imm d0 fun x0 => bindO (impl_PointsRight_c1 N x0) fun r => k [⟨.bool, .imm, r⟩] [] | _ => none }
noncomputable def impl_PointsRight_c1.cfg (N : Nat) : Cfg := { ty := tys, keep := [4], flt := [], elm := [(22, (.own .imm)), (23, (.own (.own .imm))), (24, (.own .imm)), (25, (.pr (.own (.own .imm)) (.pr .imm (.pr (.own .imm) .imm)))), (26, (.pr (.own (.own .imm)) (.pr .imm (.pr (.own .imm) .imm)))), (37, (.pr (.pr (.own (.own .imm)) (.pr .imm (.pr (.own .imm) .imm))) (.pr (.own .imm) .imm))), (38, (.pr (.pr (.own (.own .imm)) (.pr .imm (.pr (.own .imm) .imm))) (.pr (.own .imm) .imm))), (54, (.pr (.own .imm) .imm)), (55, (.pr (.own .imm) .imm)), (58, (.own .imm))], live := [], ord := [], con := [((39, [.one]), impl_isPoint.con N)], loops := [], joins := [] }
theorem impl_PointsRight_c1.cons (N : Nat) : ConsOk Try.prog (impl_PointsRight_c1.cfg N).con := (consOk_cons (hb39) (impl_isPoint.ok N) (impl_isPoint.det N) consOk_nil)
theorem impl_PointsRight_c1.ls (N : Nat) : LoopsOk Try.prog (impl_PointsRight_c1.cfg N) (fnBody Try.f38) := loopsL (l := []) (by kernel_rfl) trivial
theorem impl_PointsRight_c1.b (N : Nat) (x0 : den (.int .i64)) : body (impl_PointsRight_c1.cfg N) N Try.f38 [.one] [.v] [(false, .imm)] [⟨(.int .i64), .imm, x0⟩] (fun r i => some (r, i)) = bindO (impl_PointsRight_c1 N x0) fun r => some ([⟨.bool, .imm, r⟩], []) := by
  show _ = bindF _ _
  conv => rhs; simp only [impl_PointsRight_c1, bindF_ifB, bindF_bindO, bindF_pure, bindF_none, bindF_onSum]
  kernel_rfl
theorem impl_PointsRight_c1.ok (N : Nat) : ConOk Try.prog 38 [.one] (impl_PointsRight_c1.con N) := by
  refine conOk_mk (g := impl_PointsRight_c1.cfg N) (N := N) (res := [(false, .imm)]) tys_ok (impl_PointsRight_c1.cons N) mixed Try.func38 (impl_PointsRight_c1.ls N) rfl rfl ?_
  intro ds R k y h
  cases ds with
  | nil => exact none_some h
  | cons d0 ds =>
  cases ds with
  | cons _ _ => exact none_some h
  | nil =>
  have h0 : (castDm (.int .i64) .imm d0 fun x0 => bindO (impl_PointsRight_c1 N x0) fun r => k [⟨.bool, .imm, r⟩] []) = some y := h
  clear h
  obtain ⟨x0, rfl, h1⟩ := castDm_eq h0
  exact con_fin (impl_PointsRight_c1.b N x0) h1
theorem impl_PointsRight_c1.det (N : Nat) : ConDet (impl_PointsRight_c1.con N) := by
  intro ds R k y h
  cases ds with
  | nil => exact none_some h
  | cons d0 ds =>
  cases ds with
  | cons _ _ => exact none_some h
  | nil =>
  have h0 : (castDm (.int .i64) .imm d0 fun x0 => bindO (impl_PointsRight_c1 N x0) fun r => k [⟨.bool, .imm, r⟩] []) = some y := h
  clear h
  obtain ⟨x0, rfl, h1⟩ := castDm_eq h0
  obtain ⟨r, e, h⟩ := bindO_some h1
  refine ⟨_, _, h, fun k' => ?_⟩
  show (castDm (.int .i64) .imm (⟨(.int .i64), .imm, x0⟩ : Dy) fun x0 => bindO (impl_PointsRight_c1 N x0) fun r => k' [⟨.bool, .imm, r⟩] []) = _
  simp only [castDm_self]
  rw [e]
  rfl
def slices_IndexFunc_Sint64_int64__impl_PointsRight_c1.sk2 : Skel := ⟨[.pv (.sl 2 (.int .i64)), .fn 38 [], .dead, .dead, .dead, .dead, .dead, .pv (.int .i64), .pv (.int .i64), .dead, .dead, .dead, .dead, .dead, .dead, .dead, .dead, .dead, .dead], []⟩
def slices_IndexFunc_Sint64_int64__impl_PointsRight_c1.xs2 : List XS := [⟨.exit 0, [], ⟨[.dead, .dead, .dead, .dead, .dead, .dead, .dead, .dead, .dead, .dead, .dead, .dead, .dead, .dead, .dead, .dead, .dead, .dead, .dead], []⟩⟩, ⟨.ret, [4], ⟨[.dead, .dead, .dead, .dead, .pv (.int .i64), .dead, .dead, .dead, .dead, .dead, .dead, .dead, .dead, .dead, .dead, .dead, .dead, .dead, .dead], []⟩⟩]
noncomputable def slices_IndexFunc_Sint64_int64__impl_PointsRight_c1.con (N : Nat) : Con := { modes := [.v], ptrs := [false], fn := fun ds k => match ds with | [d0] => castDm (.sl 2 (.int .i64)) .imm d0 fun x0 => bindO (slices_IndexFunc_Sint64_int64__impl_PointsRight_c1 N x0) fun r => k [⟨(.int .i64), .imm, r⟩] [] | _ => none }
noncomputable def slices_IndexFunc_Sint64_int64__impl_PointsRight_c1.cfg (N : Nat) : Cfg := { ty := tys, keep := [16], flt := [], elm := [(22, (.own .imm)), (23, (.own (.own .imm))), (24, (.own .imm)), (25, (.pr (.own (.own .imm)) (.pr .imm (.pr (.own .imm) .imm)))), (26, (.pr (.own (.own .imm)) (.pr .imm (.pr (.own .imm) .imm)))), (37, (.pr (.pr (.own (.own .imm)) (.pr .imm (.pr (.own .imm) .imm))) (.pr (.own .imm) .imm))), (38, (.pr (.pr (.own (.own .imm)) (.pr .imm (.pr (.own .imm) .imm))) (.pr (.own .imm) .imm))), (54, (.pr (.own .imm) .imm)), (55, (.pr (.own .imm) .imm)), (58, (.own .imm))], live := [(2, [0, 1, 7, 8])], ord := [], con := [((38, [.one]), impl_PointsRight_c1.con N)], loops := [(2, loopCon N slices_IndexFunc_Sint64_int64__impl_PointsRight_c1.sk2 slices_IndexFunc_Sint64_int64__impl_PointsRight_c1.xs2 (fun {R} => slices_IndexFunc_Sint64_int64__impl_PointsRight_c1.l2 (R := R) N))], joins := [] }
theorem slices_IndexFunc_Sint64_int64__impl_PointsRight_c1.cons (N : Nat) : ConsOk Try.prog (slices_IndexFunc_Sint64_int64__impl_PointsRight_c1.cfg N).con := (consOk_cons (hb38) (impl_PointsRight_c1.ok N) (impl_PointsRight_c1.det N) consOk_nil)
theorem slices_IndexFunc_Sint64_int64__impl_PointsRight_c1.h2 {R : Type} (N : Nat) (d : slices_IndexFunc_Sint64_int64__impl_PointsRight_c1.sk2.D) (kn : slices_IndexFunc_Sint64_int64__impl_PointsRight_c1.sk2.D → Option R) (kx : XD slices_IndexFunc_Sint64_int64__impl_PointsRight_c1.xs2 → Option R) : roundK (slices_IndexFunc_Sint64_int64__impl_PointsRight_c1.cfg N) N (nthLoop (fnBody Try.f45) 0) slices_IndexFunc_Sint64_int64__impl_PointsRight_c1.sk2 slices_IndexFunc_Sint64_int64__impl_PointsRight_c1.xs2 d kn kx = slices_IndexFunc_Sint64_int64__impl_PointsRight_c1.l2 N d kn kx := by kernel_rfl
theorem slices_IndexFunc_Sint64_int64__impl_PointsRight_c1.i2 (N : Nat) : LoopsOk Try.prog (slices_IndexFunc_Sint64_int64__impl_PointsRight_c1.cfg N) (nthLoop (fnBody Try.f45) 0) := loopsL (l := []) (by kernel_rfl) trivial
theorem slices_IndexFunc_Sint64_int64__impl_PointsRight_c1.o2 (N : Nat) : LoopOk Try.prog (nthLoop (fnBody Try.f45) 0) (loopCon N slices_IndexFunc_Sint64_int64__impl_PointsRight_c1.sk2 slices_IndexFunc_Sint64_int64__impl_PointsRight_c1.xs2 (fun {R} => slices_IndexFunc_Sint64_int64__impl_PointsRight_c1.l2 (R := R) N)) := loop_ok (g := slices_IndexFunc_Sint64_int64__impl_PointsRight_c1.cfg N) tys_ok (slices_IndexFunc_Sint64_int64__impl_PointsRight_c1.cons N) mixed (slices_IndexFunc_Sint64_int64__impl_PointsRight_c1.i2 N) (fun d kn kx => slices_IndexFunc_Sint64_int64__impl_PointsRight_c1.h2 N d kn kx)
theorem slices_IndexFunc_Sint64_int64__impl_PointsRight_c1.ls (N : Nat) : LoopsOk Try.prog (slices_IndexFunc_Sint64_int64__impl_PointsRight_c1.cfg N) (fnBody Try.f45) := loopsL (l := [nthLoop (fnBody Try.f45) 0]) (by kernel_rfl) ⟨loopOne (L0 := loopCon N slices_IndexFunc_Sint64_int64__impl_PointsRight_c1.sk2 slices_IndexFunc_Sint64_int64__impl_PointsRight_c1.xs2 (fun {R} => slices_IndexFunc_Sint64_int64__impl_PointsRight_c1.l2 (R := R) N)) (id := 2) (by kernel_rfl) (by kernel_rfl) (slices_IndexFunc_Sint64_int64__impl_PointsRight_c1.o2 N), trivial⟩
theorem slices_IndexFunc_Sint64_int64__impl_PointsRight_c1.q2 {R R' : Type} {N n : Nat} {d} {k} {g : R → Option R'} : bindF (loopP (slices_IndexFunc_Sint64_int64__impl_PointsRight_c1.l2 N) n d k) g = loopP (slices_IndexFunc_Sint64_int64__impl_PointsRight_c1.l2 N) n d fun e => bindF (k e) g := bindF_loopP (fun d kn kx => by simp only [slices_IndexFunc_Sint64_int64__impl_PointsRight_c1.l2, bindF_ifB, bindF_bindO, bindF_pure, bindF_none, bindF_onSum]) n d k
theorem slices_IndexFunc_Sint64_int64__impl_PointsRight_c1.b (N : Nat) (x0 : den (.sl 2 (.int .i64))) : body (slices_IndexFunc_Sint64_int64__impl_PointsRight_c1.cfg N) N Try.f45 [.one, .fn 38 0] [.v] [(false, .imm)] [⟨(.sl 2 (.int .i64)), .imm, x0⟩] (fun r i => some (r, i)) = bindO (slices_IndexFunc_Sint64_int64__impl_PointsRight_c1 N x0) fun r => some ([⟨(.int .i64), .imm, r⟩], []) := by
  show _ = bindF _ _
  conv => rhs; simp only [slices_IndexFunc_Sint64_int64__impl_PointsRight_c1, bindF_ifB, bindF_bindO, bindF_pure, bindF_none, bindF_onSum, slices_IndexFunc_Sint64_int64__impl_PointsRight_c1.q2]
  kernel_rfl
theorem slices_IndexFunc_Sint64_int64__impl_PointsRight_c1.ok (N : Nat) : ConOk Try.prog 45 [.one, .fn 38 0] (slices_IndexFunc_Sint64_int64__impl_PointsRight_c1.con N) := by
  refine conOk_mk (g := slices_IndexFunc_Sint64_int64__impl_PointsRight_c1.cfg N) (N := N) (res := [(false, .imm)]) tys_ok (slices_IndexFunc_Sint64_int64__impl_PointsRight_c1.cons N) mixed Try.func45 (slices_IndexFunc_Sint64_int64__impl_PointsRight_c1.ls N) rfl rfl ?_
  intro ds R k y h
  cases ds with
  | nil => exact none_some h
  | cons d0 ds =>
  cases ds with
  | cons _ _ => exact none_some h
  | nil =>
  have h0 : (castDm (.sl 2 (.int .i64)) .imm d0 fun x0 => bindO (slices_IndexFunc_Sint64_int64__impl_PointsRight_c1 N x0) fun r => k [⟨(.int .i64), .imm, r⟩] []) = some y := h
  clear h
  obtain ⟨x0, rfl, h1⟩ := castDm_eq h0
  exact con_fin (slices_IndexFunc_Sint64_int64__impl_PointsRight_c1.b N x0) h1
theorem slices_IndexFunc_Sint64_int64__impl_PointsRight_c1.det (N : Nat) : ConDet (slices_IndexFunc_Sint64_int64__impl_PointsRight_c1.con N) := by
  intro ds R k y h
  cases ds with
  | nil => exact none_some h
  | cons d0 ds =>
  cases ds with
  | cons _ _ => exact none_some h
  | nil =>
  have h0 : (castDm (.sl 2 (.int .i64)) .imm d0 fun x0 => bindO (slices_IndexFunc_Sint64_int64__impl_PointsRight_c1 N x0) fun r => k [⟨(.int .i64), .imm, r⟩] []) = some y := h
  clear h
  obtain ⟨x0, rfl, h1⟩ := castDm_eq h0
  obtain ⟨r, e, h⟩ := bindO_some h1
  refine ⟨_, _, h, fun k' => ?_⟩
  show (castDm (.sl 2 (.int .i64)) .imm (⟨(.sl 2 (.int .i64)), .imm, x0⟩ : Dy) fun x0 => bindO (slices_IndexFunc_Sint64_int64__impl_PointsRight_c1 N x0) fun r => k' [⟨(.int .i64), .imm, r⟩] []) = _
  simp only [castDm_self]
  rw [e]
  rfl
noncomputable def slices_ContainsFunc_Sint64_int64__impl_PointsRight_c1.con (N : Nat) : Con := { modes := [.v], ptrs := [false], fn := fun ds k => match ds with | [d0] => castDm (.sl 2 (.int .i64)) .imm d0 fun x0 => bindO (slices_ContainsFunc_Sint64_int64__impl_PointsRight_c1 N x0) fun r => k [⟨.bool, .imm, r⟩] [] | _ => none }
noncomputable def slices_ContainsFunc_Sint64_int64__impl_PointsRight_c1.cfg (N : Nat) : Cfg := { ty := tys, keep := [7], flt := [], elm := [(22, (.own .imm)), (23, (.own (.own .imm))), (24, (.own .imm)), (25, (.pr (.own (.own .imm)) (.pr .imm (.pr (.own .imm) .imm)))), (26, (.pr (.own (.own .imm)) (.pr .imm (.pr (.own .imm) .imm)))), (37, (.pr (.pr (.own (.own .imm)) (.pr .imm (.pr (.own .imm) .imm))) (.pr (.own .imm) .imm))), (38, (.pr (.pr (.own (.own .imm)) (.pr .imm (.pr (.own .imm) .imm))) (.pr (.own .imm) .imm))), (54, (.pr (.own .imm) .imm)), (55, (.pr (.own .imm) .imm)), (58, (.own .imm))], live := [], ord := [], con := [((45, [.one, .fn 38 0]), slices_IndexFunc_Sint64_int64__impl_PointsRight_c1.con N)], loops := [], joins := [] }
theorem slices_ContainsFunc_Sint64_int64__impl_PointsRight_c1.cons (N : Nat) : ConsOk Try.prog (slices_ContainsFunc_Sint64_int64__impl_PointsRight_c1.cfg N).con := (consOk_cons (hb45) (slices_IndexFunc_Sint64_int64__impl_PointsRight_c1.ok N) (slices_IndexFunc_Sint64_int64__impl_PointsRight_c1.det N) consOk_nil)
theorem slices_ContainsFunc_Sint64_int64__impl_PointsRight_c1.ls (N : Nat) : LoopsOk Try.prog (slices_ContainsFunc_Sint64_int64__impl_PointsRight_c1.cfg N) (fnBody Try.f37) := loopsL (l := []) (by kernel_rfl) trivial
theorem slices_ContainsFunc_Sint64_int64__impl_PointsRight_c1.b (N : Nat) (x0 : den (.sl 2 (.int .i64))) : body (slices_ContainsFunc_Sint64_int64__impl_PointsRight_c1.cfg N) N Try.f37 [.one, .fn 38 0] [.v] [(false, .imm)] [⟨(.sl 2 (.int .i64)), .imm, x0⟩] (fun r i => some (r, i)) = bindO (slices_ContainsFunc_Sint64_int64__impl_PointsRight_c1 N x0) fun r => some ([⟨.bool, .imm, r⟩], []) := by
  show _ = bindF _ _
  conv => rhs; simp only [slices_ContainsFunc_Sint64_int64__impl_PointsRight_c1, bindF_ifB, bindF_bindO, bindF_pure, bindF_none, bindF_onSum]
  kernel_rfl
theorem slices_ContainsFunc_Sint64_int64__impl_PointsRight_c1.ok (N : Nat) : ConOk Try.prog 37 [.one, .fn 38 0] (slices_ContainsFunc_Sint64_int64__impl_PointsRight_c1.con N) := by
  refine conOk_mk (g := slices_ContainsFunc_Sint64_int64__impl_PointsRight_c1.cfg N) (N := N) (res := [(false, .imm)]) tys_ok (slices_ContainsFunc_Sint64_int64__impl_PointsRight_c1.cons N) mixed Try.func37 (slices_ContainsFunc_Sint64_int64__impl_PointsRight_c1.ls N) rfl rfl ?_
  intro ds R k y h
  cases ds with
  | nil => exact none_some h
  | cons d0 ds =>
  cases ds with
  | cons _ _ => exact none_some h
  | nil =>
  have h0 : (castDm (.sl 2 (.int .i64)) .imm d0 fun x0 => bindO (slices_ContainsFunc_Sint64_int64__impl_PointsRight_c1 N x0) fun r => k [⟨.bool, .imm, r⟩] []) = some y := h
  clear h
  obtain ⟨x0, rfl, h1⟩ := castDm_eq h0
  exact con_fin (slices_ContainsFunc_Sint64_int64__impl_PointsRight_c1.b N x0) h1
theorem slices_ContainsFunc_Sint64_int64__impl_PointsRight_c1.det (N : Nat) : ConDet (slices_ContainsFunc_Sint64_int64__impl_PointsRight_c1.con N) := by
  intro ds R k y h
  cases ds with
  | nil => exact none_some h
  | cons d0 ds =>
  cases ds with
  | cons _ _ => exact none_some h
  | nil =>
  have h0 : (castDm (.sl 2 (.int .i64)) .imm d0 fun x0 => bindO (slices_ContainsFunc_Sint64_int64__impl_PointsRight_c1 N x0) fun r => k [⟨.bool, .imm, r⟩] []) = some y := h
  clear h
  obtain ⟨x0, rfl, h1⟩ := castDm_eq h0
  obtain ⟨r, e, h⟩ := bindO_some h1
  refine ⟨_, _, h, fun k' => ?_⟩
  show (castDm (.sl 2 (.int .i64)) .imm (⟨(.sl 2 (.int .i64)), .imm, x0⟩ : Dy) fun x0 => bindO (slices_ContainsFunc_Sint64_int64__impl_PointsRight_c1 N x0) fun r => k' [⟨.bool, .imm, r⟩] []) = _
  simp only [castDm_self]
  rw [e]
  rfl
noncomputable def impl_PointsRight.con (N : Nat) : Con := { modes := [.v], ptrs := [false], fn := fun ds k => match ds with | [d0] => castDm (.sl 2 (.int .i64)) .imm d0 fun x0 => bindO (impl_PointsRight N x0) fun r => k [⟨.bool, .imm, r⟩] [] | _ => none }
noncomputable def impl_PointsRight.cfg (N : Nat) : Cfg := { ty := tys, keep := [8], flt := [], elm := [(22, (.own .imm)), (23, (.own (.own .imm))), (24, (.own .imm)), (25, (.pr (.own (.own .imm)) (.pr .imm (.pr (.own .imm) .imm)))), (26, (.pr (.own (.own .imm)) (.pr .imm (.pr (.own .imm) .imm)))), (37, (.pr (.pr (.own (.own .imm)) (.pr .imm (.pr (.own .imm) .imm))) (.pr (.own .imm) .imm))), (38, (.pr (.pr (.own (.own .imm)) (.pr .imm (.pr (.own .imm) .imm))) (.pr (.own .imm) .imm))), (54, (.pr (.own .imm) .imm)), (55, (.pr (.own .imm) .imm)), (58, (.own .imm))], live := [], ord := [], con := [((37, [.one, .fn 38 0]), slices_ContainsFunc_Sint64_int64__impl_PointsRight_c1.con N)], loops := [], joins := [] }
theorem impl_PointsRight.cons (N : Nat) : ConsOk Try.prog (impl_PointsRight.cfg N).con := (consOk_cons (hb37) (slices_ContainsFunc_Sint64_int64__impl_PointsRight_c1.ok N) (slices_ContainsFunc_Sint64_int64__impl_PointsRight_c1.det N) consOk_nil)
theorem impl_PointsRight.ls (N : Nat) : LoopsOk Try.prog (impl_PointsRight.cfg N) (fnBody Try.f25) := loopsL (l := []) (by kernel_rfl) trivial
theorem impl_PointsRight.b (N : Nat) (x0 : den (.sl 2 (.int .i64))) : body (impl_PointsRight.cfg N) N Try.f25 [.one] [.v] [(false, .imm)] [⟨(.sl 2 (.int .i64)), .imm, x0⟩] (fun r i => some (r, i)) = bindO (impl_PointsRight N x0) fun r => some ([⟨.bool, .imm, r⟩], []) := by
  show _ = bindF _ _
  conv => rhs; simp only [impl_PointsRight, bindF_ifB, bindF_bindO, bindF_pure, bindF_none, bindF_onSum]
  kernel_rfl
theorem impl_PointsRight.ok (N : Nat) : ConOk Try.prog 25 [.one] (impl_PointsRight.con N) := by
  refine conOk_mk (g := impl_PointsRight.cfg N) (N := N) (res := [(false, .imm)]) tys_ok (impl_PointsRight.cons N) mixed Try.func25 (impl_PointsRight.ls N) rfl rfl ?_
  intro ds R k y h
  cases ds with
  | nil => exact none_some h
  | cons d0 ds =>
  cases ds with
  | cons _ _ => exact none_some h
  | nil =>
  have h0 : (castDm (.sl 2 (.int .i64)) .imm d0 fun x0 => bindO (impl_PointsRight N x0) fun r => k [⟨.bool, .imm, r⟩] []) = some y := h
  clear h
  obtain ⟨x0, rfl, h1⟩ := castDm_eq h0
  exact con_fin (impl_PointsRight.b N x0) h1
theorem impl_PointsRight.det (N : Nat) : ConDet (impl_PointsRight.con N) := by
  intro ds R k y h
  cases ds with
  | nil => exact none_some h
  | cons d0 ds =>
  cases ds with
  | cons _ _ => exact none_some h
  | nil =>
  have h0 : (castDm (.sl 2 (.int .i64)) .imm d0 fun x0 => bindO (impl_PointsRight N x0) fun r => k [⟨.bool, .imm, r⟩] []) = some y := h
  clear h
  obtain ⟨x0, rfl, h1⟩ := castDm_eq h0
  obtain ⟨r, e, h⟩ := bindO_some h1
  refine ⟨_, _, h, fun k' => ?_⟩
  show (castDm (.sl 2 (.int .i64)) .imm (⟨(.sl 2 (.int .i64)), .imm, x0⟩ : Dy) fun x0 => bindO (impl_PointsRight N x0) fun r => k' [⟨.bool, .imm, r⟩] []) = _
  simp only [castDm_self]
  rw [e]
  rfl
noncomputable def impl_isItem.con (N : Nat) : Con := { modes := [.v], ptrs := [false], fn := fun ds k => match ds with | [d0] => castDm (.sl 2 (.int .i64)) .imm d0 fun x0 => bindO (impl_isItem N x0) fun r => k [⟨.bool, .imm, r⟩] [] | _ => none }
noncomputable def impl_isItem.cfg (N : Nat) : Cfg := { ty := tys, keep := [8], flt := [], elm := [(22, (.own .imm)), (23, (.own (.own .imm))), (24, (.own .imm)), (25, (.pr (.own (.own .imm)) (.pr .imm (.pr (.own .imm) .imm)))), (26, (.pr (.own (.own .imm)) (.pr .imm (.pr (.own .imm) .imm)))), (37, (.pr (.pr (.own (.own .imm)) (.pr .imm (.pr (.own .imm) .imm))) (.pr (.own .imm) .imm))), (38, (.pr (.pr (.own (.own .imm)) (.pr .imm (.pr (.own .imm) .imm))) (.pr (.own .imm) .imm))), (54, (.pr (.own .imm) .imm)), (55, (.pr (.own .imm) .imm)), (58, (.own .imm))], live := [], ord := [], con := [((25, [.one]), impl_PointsRight.con N)], loops := [], joins := [] }
theorem impl_isItem.cons (N : Nat) : ConsOk Try.prog (impl_isItem.cfg N).con := (consOk_cons (hb25) (impl_PointsRight.ok N) (impl_PointsRight.det N) consOk_nil)
theorem impl_isItem.ls (N : Nat) : LoopsOk Try.prog (impl_isItem.cfg N) (fnBody Try.f42) := loopsL (l := []) (by kernel_rfl) trivial
theorem impl_isItem.b (N : Nat) (x0 : den (.sl 2 (.int .i64))) : body (impl_isItem.cfg N) N Try.f42 [.one] [.v] [(false, .imm)] [⟨(.sl 2 (.int .i64)), .imm, x0⟩] (fun r i => some (r, i)) = bindO (impl_isItem N x0) fun r => some ([⟨.bool, .imm, r⟩], []) := by
  show _ = bindF _ _
  conv => rhs; simp only [impl_isItem, bindF_ifB, bindF_bindO, bindF_pure, bindF_none, bindF_onSum]
  kernel_rfl
theorem impl_isItem.ok (N : Nat) : ConOk Try.prog 42 [.one] (impl_isItem.con N) := by
  refine conOk_mk (g := impl_isItem.cfg N) (N := N) (res := [(false, .imm)]) tys_ok (impl_isItem.cons N) mixed Try.func42 (impl_isItem.ls N) rfl rfl ?_
  intro ds R k y h
  cases ds with
  | nil => exact none_some h
  | cons d0 ds =>
  cases ds with
  | cons _ _ => exact none_some h
  | nil =>
  have h0 : (castDm (.sl 2 (.int .i64)) .imm d0 fun x0 => bindO (impl_isItem N x0) fun r => k [⟨.bool, .imm, r⟩] []) = some y := h
  clear h
  obtain ⟨x0, rfl, h1⟩ := castDm_eq h0
  exact con_fin (impl_isItem.b N x0) h1
theorem impl_isItem.det (N : Nat) : ConDet (impl_isItem.con N) := by
  intro ds R k y h
  cases ds with
  | nil => exact none_some h
  | cons d0 ds =>
  cases ds with
  | cons _ _ => exact none_some h
  | nil =>
  have h0 : (castDm (.sl 2 (.int .i64)) .imm d0 fun x0 => bindO (impl_isItem N x0) fun r => k [⟨.bool, .imm, r⟩] []) = some y := h
  clear h
  obtain ⟨x0, rfl, h1⟩ := castDm_eq h0
  obtain ⟨r, e, h⟩ := bindO_some h1
  refine ⟨_, _, h, fun k' => ?_⟩
  show (castDm (.sl 2 (.int .i64)) .imm (⟨(.sl 2 (.int .i64)), .imm, x0⟩ : Dy) fun x0 => bindO (impl_isItem N x0) fun r => k' [⟨.bool, .imm, r⟩] []) = _
  simp only [castDm_self]
  rw [e]
  rfl
noncomputable def impl_areItems_c1.con (N : Nat) : Con := { modes := [.v], ptrs := [false], fn := fun ds k => match ds with | [d0] => castDm (.sl 2 (.int .i64)) .imm d0 fun x0 => bindO (impl_areItems_c1 N x0) fun r => k [⟨.bool, .imm, r⟩] [] | _ => none }
noncomputable def impl_areItems_c1.cfg (N : Nat) : Cfg := { ty := tys, keep := [4], flt := [], elm := [(22, (.own .imm)), (23, (.own (.own .imm))), (24, (.own .imm)), (25, (.pr (.own (.own .imm)) (.pr .imm (.pr (.own .imm) .imm)))), (26, (.pr (.own (.own .imm)) (.pr .imm (.pr (.own .imm) .imm)))), (37, (.pr (.pr (.own (.own .imm)) (.pr .imm (.pr (.own .imm) .imm))) (.pr (.own .imm) .imm))), (38, (.pr (.pr (.own (.own .imm)) (.pr .imm (.pr (.own .imm) .imm))) (.pr (.own .imm) .imm))), (54, (.pr (.own .imm) .imm)), (55, (.pr (.own .imm) .imm)), (58, (.own .imm))], live := [], ord := [], con := [((42, [.one]), impl_isItem.con N)], loops := [], joins := [] }
theorem impl_areItems_c1.cons (N : Nat) : ConsOk Try.prog (impl_areItems_c1.cfg N).con := (consOk_cons (hb42) (impl_isItem.ok N) (impl_isItem.det N) consOk_nil)
theorem impl_areItems_c1.ls (N : Nat) : LoopsOk Try.prog (impl_areItems_c1.cfg N) (fnBody Try.f41) := loopsL (l := []) (by kernel_rfl) trivial
theorem impl_areItems_c1.b (N : Nat) (x0 : den (.sl 2 (.int .i64))) : body (impl_areItems_c1.cfg N) N Try.f41 [.one] [.v] [(false, .imm)] [⟨(.sl 2 (.int .i64)), .imm, x0⟩] (fun r i => some (r, i)) = bindO (impl_areItems_c1 N x0) fun r => some ([⟨.bool, .imm, r⟩], []) := by
  show _ = bindF _ _
  conv => rhs; simp only [impl_areItems_c1, bindF_ifB, bindF_bindO, bindF_pure, bindF_none, bindF_onSum]
  kernel_rfl
theorem impl_areItems_c1.ok (N : Nat) : ConOk Try.prog 41 [.one] (impl_areItems_c1.con N) := by
  refine conOk_mk (g := impl_areItems_c1.cfg N) (N := N) (res := [(false, .imm)]) tys_ok (impl_areItems_c1.cons N) mixed Try.func41 (impl_areItems_c1.ls N) rfl rfl ?_
  intro ds R k y h
  cases ds with
  | nil => exact none_some h
  | cons d0 ds =>
  cases ds with
  | cons _ _ => exact none_some h
  | nil =>
  have h0 : (castDm (.sl 2 (.int .i64)) .imm d0 fun x0 => bindO (impl_areItems_c1 N x0) fun r => k [⟨.bool, .imm, r⟩] []) = some y := h
  clear h
  obtain ⟨x0, rfl, h1⟩ := castDm_eq h0
  exact con_fin (impl_areItems_c1.b N x0) h1
theorem impl_areItems_c1.det (N : Nat) : ConDet (impl_areItems_c1.con N) := by
  intro ds R k y h
  cases ds with
  | nil => exact none_some h
  | cons d0 ds =>
  cases ds with
  | cons _ _ => exact none_some h
  | nil =>
  have h0 : (castDm (.sl 2 (.int .i64)) .imm d0 fun x0 => bindO (impl_areItems_c1 N x0) fun r => k [⟨.bool, .imm, r⟩] []) = some y := h
  clear h
  obtain ⟨x0, rfl, h1⟩ := castDm_eq h0
  obtain ⟨r, e, h⟩ := bindO_some h1
  refine ⟨_, _, h, fun k' => ?_⟩
  show (castDm (.sl 2 (.int .i64)) .imm (⟨(.sl 2 (.int .i64)), .imm, x0⟩ : Dy) fun x0 => bindO (impl_areItems_c1 N x0) fun r => k' [⟨.bool, .imm, r⟩] []) = _
  simp only [castDm_self]
  rw [e]
  rfl
def slices_IndexFunc_S_Sint64__Sint64__impl_areItems_c1.sk2 : Skel := ⟨[.pv (.sl 24 (.sl 2 (.int .i64))), .fn 41 [], .dead, .dead, .dead, .dead, .dead, .pv (.int .i64), .pv (.int .i64), .dead, .dead, .dead, .dead, .dead, .dead, .dead, .dead, .dead, .dead], []⟩
def slices_IndexFunc_S_Sint64__Sint64__impl_areItems_c1.xs2 : List XS := [⟨.exit 0, [], ⟨[.dead, .dead, .dead, .dead, .dead, .dead, .dead, .dead, .dead, .dead, .dead, .dead, .dead, .dead, .dead, .dead, .dead, .dead, .dead], []⟩⟩, ⟨.ret, [4], ⟨[.dead, .dead, .dead, .dead, .pv (.int .i64), .dead, .dead, .dead, .dead, .dead, .dead, .dead, .dead, .dead, .dead, .dead, .dead, .dead, .dead], []⟩⟩]
noncomputable def slices_IndexFunc_S_Sint64__Sint64__impl_areItems_c1.con (N : Nat) : Con := { modes := [.v], ptrs := [false], fn := fun ds k => match ds with | [d0] => castDm (.sl 24 (.sl 2 (.int .i64))) .imm d0 fun x0 => bindO (slices_IndexFunc_S_Sint64__Sint64__impl_areItems_c1 N x0) fun r => k [⟨(.int .i64), .imm, r⟩] [] | _ => none }
noncomputable def slices_IndexFunc_S_Sint64__Sint64__impl_areItems_c1.cfg (N : Nat) : Cfg := { ty := tys, keep := [16], flt := [], elm := [(22, (.own .imm)), (23, (.own (.own .imm))), (24, (.own .imm)), (25, (.pr (.own (.own .imm)) (.pr .imm (.pr (.own .imm) .imm)))), (26, (.pr (.own (.own .imm)) (.pr .imm (.pr (.own .imm) .imm)))), (37, (.pr (.pr (.own (.own .imm)) (.pr .imm (.pr (.own .imm) .imm))) (.pr (.own .imm) .imm))), (38, (.pr (.pr (.own (.own .imm)) (.pr .imm (.pr (.own .imm) .imm))) (.pr (.own .imm) .imm))), (54, (.pr (.own .imm) .imm)), (55, (.pr (.own .imm) .imm)), (58, (.own .imm))], live := [(2, [0, 1, 7, 8])], ord := [], con := [((41, [.one]), impl_areItems_c1.con N)], loops := [(2, loopCon N slices_IndexFunc_S_Sint64__Sint64__impl_areItems_c1.sk2 slices_IndexFunc_S_Sint64__Sint64__impl_areItems_c1.xs2 (fun {R} => slices_IndexFunc_S_Sint64__Sint64__impl_areItems_c1.l2 (R := R) N))], joins := [] }
theorem slices_IndexFunc_S_Sint64__Sint64__impl_areItems_c1.cons (N : Nat) : ConsOk Try.prog (slices_IndexFunc_S_Sint64__Sint64__impl_areItems_c1.cfg N).con := (consOk_cons (hb41) (impl_areItems_c1.ok N) (impl_areItems_c1.det N) consOk_nil)
theorem slices_IndexFunc_S_Sint64__Sint64__impl_areItems_c1.h2 {R : Type} (N : Nat) (d : slices_IndexFunc_S_Sint64__Sint64__impl_areItems_c1.sk2.D) (kn : slices_IndexFunc_S_Sint64__Sint64__impl_areItems_c1.sk2.D → Option R) (kx : XD slices_IndexFunc_S_Sint64__Sint64__impl_areItems_c1.xs2 → Option R) : roundK (slices_IndexFunc_S_Sint64__Sint64__impl_areItems_c1.cfg N) N (nthLoop (fnBody Try.f46) 0) slices_IndexFunc_S_Sint64__Sint64__impl_areItems_c1.sk2 slices_IndexFunc_S_Sint64__Sint64__impl_areItems_c1.xs2 d kn kx = slices_IndexFunc_S_Sint64__Sint64__impl_areItems_c1.l2 N d kn kx := by kernel_rfl
theorem slices_IndexFunc_S_Sint64__Sint64__impl_areItems_c1.i2 (N : Nat) : LoopsOk Try.prog (slices_IndexFunc_S_Sint64__Sint64__impl_areItems_c1.cfg N) (nthLoop (fnBody Try.f46) 0) := loopsL (l := []) (by kernel_rfl) trivial
theorem slices_IndexFunc_S_Sint64__Sint64__impl_areItems_c1.o2 (N : Nat) : LoopOk Try.prog (nthLoop (fnBody Try.f46) 0) (loopCon N slices_IndexFunc_S_Sint64__Sint64__impl_areItems_c1.sk2 slices_IndexFunc_S_Sint64__Sint64__impl_areItems_c1.xs2 (fun {R} => slices_IndexFunc_S_Sint64__Sint64__impl_areItems_c1.l2 (R := R) N)) := loop_ok (g := slices_IndexFunc_S_Sint64__Sint64__impl_areItems_c1.cfg N) tys_ok (slices_IndexFunc_S_Sint64__Sint64__impl_areItems_c1.cons N) mixed (slices_IndexFunc_S_Sint64__Sint64__impl_areItems_c1.i2 N) (fun d kn kx => slices_IndexFunc_S_Sint64__Sint64__impl_areItems_c1.h2 N d kn kx)
theorem slices_IndexFunc_S_Sint64__Sint64__impl_areItems_c1.ls (N : Nat) : LoopsOk Try.prog (slices_IndexFunc_S_Sint64__Sint64__impl_areItems_c1.cfg N) (fnBody Try.f46) := loopsL (l := [nthLoop (fnBody Try.f46) 0]) (by kernel_rfl) ⟨loopOne (L0 := loopCon N slices_IndexFunc_S_Sint64__Sint64__impl_areItems_c1.sk2 slices_IndexFunc_S_Sint64__Sint64__impl_areItems_c1.xs2 (fun {R} => slices_IndexFunc_S_Sint64__Sint64__impl_areItems_c1.l2 (R := R) N)) (id := 2) (by kernel_rfl) (by kernel_rfl) (slices_IndexFunc_S_Sint64__Sint64__impl_areItems_c1.o2 N), trivial⟩
theorem slices_IndexFunc_S_Sint64__Sint64__impl_areItems_c1.q2 {R R' : Type} {N n : Nat} {d} {k} {g : R → Option R'} : bindF (loopP (slices_IndexFunc_S_Sint64__Sint64__impl_areItems_c1.l2 N) n d k) g = loopP (slices_IndexFunc_S_Sint64__Sint64__impl_areItems_c1.l2 N) n d fun e => bindF (k e) g := bindF_loopP (fun d kn kx => by simp only [slices_IndexFunc_S_Sint64__Sint64__impl_areItems_c1.l2, bindF_ifB, bindF_bindO, bindF_pure, bindF_none, bindF_onSum]) n d k
theorem slices_IndexFunc_S_Sint64__Sint64__impl_areItems_c1.b (N : Nat) (x0 : den (.sl 24 (.sl 2 (.int .i64)))) : body (slices_IndexFunc_S_Sint64__Sint64__impl_areItems_c1.cfg N) N Try.f46 [.one, .fn 41 0] [.v] [(false, .imm)] [⟨(.sl 24 (.sl 2 (.int .i64))), .imm, x0⟩] (fun r i => some (r, i)) = bindO (slices_IndexFunc_S_Sint64__Sint64__impl_areItems_c1 N x0) fun r => some ([⟨(.int .i64), .imm, r⟩], []) := by
  show _ = bindF _ _
  conv => rhs; simp only [slices_IndexFunc_S_Sint64__Sint64__impl_areItems_c1, bindF_ifB, bindF_bindO, bindF_pure, bindF_none, bindF_onSum, slices_IndexFunc_S_Sint64__Sint64__impl_areItems_c1.q2]
  kernel_rfl
theorem slices_IndexFunc_S_Sint64__Sint64__impl_areItems_c1.ok (N : Nat) : ConOk Try.prog 46 [.one, .fn 41 0] (slices_IndexFunc_S_Sint64__Sint64__impl_areItems_c1.con N) := by
  refine conOk_mk (g := slices_IndexFunc_S_Sint64__Sint64__impl_areItems_c1.cfg N) (N := N) (res := [(false, .imm)]) tys_ok (slices_IndexFunc_S_Sint64__Sint64__impl_areItems_c1.cons N) mixed Try.func46 (slices_IndexFunc_S_Sint64__Sint64__impl_areItems_c1.ls N) rfl rfl ?_
  intro ds R k y h
  cases ds with
  | nil => exact none_some h
  | cons d0 ds =>
  cases ds with
  | cons _ _ => exact none_some h
  | nil =>
  have h0 : (castDm (.sl 24 (.sl 2 (.int .i64))) .imm d0 fun x0 => bindO (slices_IndexFunc_S_Sint64__Sint64__impl_areItems_c1 N x0) fun r => k [⟨(.int .i64), .imm, r⟩] []) = some y := h
  clear h
  obtain ⟨x0, rfl, h1⟩ := castDm_eq h0
  exact con_fin (slices_IndexFunc_S_Sint64__Sint64__impl_areItems_c1.b N x0) h1
theorem slices_IndexFunc_S_Sint64__Sint64__impl_areItems_c1.det (N : Nat) : ConDet (slices_IndexFunc_S_Sint64__Sint64__impl_areItems_c1.con N) := by
  intro ds R k y h
  cases ds with
  | nil => exact none_some h
  | cons d0 ds =>
  cases ds with
  | cons _ _ => exact none_some h
  | nil =>
  have h0 : (castDm (.sl 24 (.sl 2 (.int .i64))) .imm d0 fun x0 => bindO (slices_IndexFunc_S_Sint64__Sint64__impl_areItems_c1 N x0) fun r => k [⟨(.int .i64), .imm, r⟩] []) = some y := h
  clear h
  obtain ⟨x0, rfl, h1⟩ := castDm_eq h0
  obtain ⟨r, e, h⟩ := bindO_some h1
  refine ⟨_, _, h, fun k' => ?_⟩
  show (castDm (.sl 24 (.sl 2 (.int .i64))) .imm (⟨(.sl 24 (.sl 2 (.int .i64))), .imm, x0⟩ : Dy) fun x0 => bindO (slices_IndexFunc_S_Sint64__Sint64__impl_areItems_c1 N x0) fun r => k' [⟨(.int .i64), .imm, r⟩] []) = _
  simp only [castDm_self]
  rw [e]
  rfl
noncomputable def slices_ContainsFunc_S_Sint64__Sint64__impl_areItems_c1.con (N : Nat) : Con := { modes := [.v], ptrs := [false], fn := fun ds k => match ds with | [d0] => castDm (.sl 24 (.sl 2 (.int .i64))) .imm d0 fun x0 => bindO (slices_ContainsFunc_S_Sint64__Sint64__impl_areItems_c1 N x0) fun r => k [⟨.bool, .imm, r⟩] [] | _ => none }
noncomputable def slices_ContainsFunc_S_Sint64__Sint64__impl_areItems_c1.cfg (N : Nat) : Cfg := { ty := tys, keep := [7], flt := [], elm := [(22, (.own .imm)), (23, (.own (.own .imm))), (24, (.own .imm)), (25, (.pr (.own (.own .imm)) (.pr .imm (.pr (.own .imm) .imm)))), (26, (.pr (.own (.own .imm)) (.pr .imm (.pr (.own .imm) .imm)))), (37, (.pr (.pr (.own (.own .imm)) (.pr .imm (.pr (.own .imm) .imm))) (.pr (.own .imm) .imm))), (38, (.pr (.pr (.own (.own .imm)) (.pr .imm (.pr (.own .imm) .imm))) (.pr (.own .imm) .imm))), (54, (.pr (.own .imm) .imm)), (55, (.pr (.own .imm) .imm)), (58, (.own .imm))], live := [], ord := [], con := [((46, [.one, .fn 41 0]), slices_IndexFunc_S_Sint64__Sint64__impl_areItems_c1.con N)], loops := [], joins := [] }
theorem slices_ContainsFunc_S_Sint64__Sint64__impl_areItems_c1.cons (N : Nat) : ConsOk Try.prog (slices_ContainsFunc_S_Sint64__Sint64__impl_areItems_c1.cfg N).con := (consOk_cons (hb46) (slices_IndexFunc_S_Sint64__Sint64__impl_areItems_c1.ok N) (slices_IndexFunc_S_Sint64__Sint64__impl_areItems_c1.det N) consOk_nil)
theorem slices_ContainsFunc_S_Sint64__Sint64__impl_areItems_c1.ls (N : Nat) : LoopsOk Try.prog (slices_ContainsFunc_S_Sint64__Sint64__impl_areItems_c1.cfg N) (fnBody Try.f40) := loopsL (l := []) (by kernel_rfl) trivial
theorem slices_ContainsFunc_S_Sint64__Sint64__impl_areItems_c1.b (N : Nat) (x0 : den (.sl 24 (.sl 2 (.int .i64)))) : body (slices_ContainsFunc_S_Sint64__Sint64__impl_areItems_c1.cfg N) N Try.f40 [.one, .fn 41 0] [.v] [(false, .imm)] [⟨(.sl 24 (.sl 2 (.int .i64))), .imm, x0⟩] (fun r i => some (r, i)) = bindO (slices_ContainsFunc_S_Sint64__Sint64__impl_areItems_c1 N x0) fun r => some ([⟨.bool, .imm, r⟩], []) := by
  show _ = bindF _ _
  conv => rhs; simp only [slices_ContainsFunc_S_Sint64__Sint64__impl_areItems_c1, bindF_ifB, bindF_bindO, bindF_pure, bindF_none, bindF_onSum]
  kernel_rfl
theorem slices_ContainsFunc_S_Sint64__Sint64__impl_areItems_c1.ok (N : Nat) : ConOk Try.prog 40 [.one, .fn 41 0] (slices_ContainsFunc_S_Sint64__Sint64__impl_areItems_c1.con N) := by
  refine conOk_mk (g := slices_ContainsFunc_S_Sint64__Sint64__impl_areItems_c1.cfg N) (N := N) (res := [(false, .imm)]) tys_ok (slices_ContainsFunc_S_Sint64__Sint64__impl_areItems_c1.cons N) mixed Try.func40 (slices_ContainsFunc_S_Sint64__Sint64__impl_areItems_c1.ls N) rfl rfl ?_
  intro ds R k y h
  cases ds with
  | nil => exact none_some h
  | cons d0 ds =>
  cases ds with
  | cons _ _ => exact none_some h
  | nil =>
  have h0 : (castDm (.sl 24 (.sl 2 (.int .i64))) .imm d0 fun x0 => bindO (slices_ContainsFunc_S_Sint64__Sint64__impl_areItems_c1 N x0) fun r => k [⟨.bool, .imm, r⟩] []) = some y := h
  clear h
  obtain ⟨x0, rfl, h1⟩ := castDm_eq h0
  exact con_fin (slices_ContainsFunc_S_Sint64__Sint64__impl_areItems_c1.b N x0) h1
theorem slices_ContainsFunc_S_Sint64__Sint64__impl_areItems_c1.det (N : Nat) : ConDet (slices_ContainsFunc_S_Sint64__Sint64__impl_areItems_c1.con N) := by
  intro ds R k y h
  cases ds with
  | nil => exact none_some h
  | cons d0 ds =>
  cases ds with
  | cons _ _ => exact none_some h
  | nil =>
  have h0 : (castDm (.sl 24 (.sl 2 (.int .i64))) .imm d0 fun x0 => bindO (slices_ContainsFunc_S_Sint64__Sint64__impl_areItems_c1 N x0) fun r => k [⟨.bool, .imm, r⟩] []) = some y := h
  clear h
  obtain ⟨x0, rfl, h1⟩ := castDm_eq h0
  obtain ⟨r, e, h⟩ := bindO_some h1
  refine ⟨_, _, h, fun k' => ?_⟩
  show (castDm (.sl 24 (.sl 2 (.int .i64))) .imm (⟨(.sl 24 (.sl 2 (.int .i64))), .imm, x0⟩ : Dy) fun x0 => bindO (slices_ContainsFunc_S_Sint64__Sint64__impl_areItems_c1 N x0) fun r => k' [⟨.bool, .imm, r⟩] []) = _
  simp only [castDm_self]
  rw [e]
  rfl
noncomputable def impl_areItems.con (N : Nat) : Con := { modes := [.v], ptrs := [false], fn := fun ds k => match ds with | [d0] => castDm (.sl 24 (.sl 2 (.int .i64))) .imm d0 fun x0 => bindO (impl_areItems N x0) fun r => k [⟨.bool, .imm, r⟩] [] | _ => none }
noncomputable def impl_areItems.cfg (N : Nat) : Cfg := { ty := tys, keep := [4], flt := [], elm := [(22, (.own .imm)), (23, (.own (.own .imm))), (24, (.own .imm)), (25, (.pr (.own (.own .imm)) (.pr .imm (.pr (.own .imm) .imm)))), (26, (.pr (.own (.own .imm)) (.pr .imm (.pr (.own .imm) .imm)))), (37, (.pr (.pr (.own (.own .imm)) (.pr .imm (.pr (.own .imm) .imm))) (.pr (.own .imm) .imm))), (38, (.pr (.pr (.own (.own .imm)) (.pr .imm (.pr (.own .imm) .imm))) (.pr (.own .imm) .imm))), (54, (.pr (.own .imm) .imm)), (55, (.pr (.own .imm) .imm)), (58, (.own .imm))], live := [], ord := [], con := [((40, [.one, .fn 41 0]), slices_ContainsFunc_S_Sint64__Sint64__impl_areItems_c1.con N)], loops := [], joins := [] }
theorem impl_areItems.cons (N : Nat) : ConsOk Try.prog (impl_areItems.cfg N).con := (consOk_cons (hb40) (slices_ContainsFunc_S_Sint64__Sint64__impl_areItems_c1.ok N) (slices_ContainsFunc_S_Sint64__Sint64__impl_areItems_c1.det N) consOk_nil)
theorem impl_areItems.ls (N : Nat) : LoopsOk Try.prog (impl_areItems.cfg N) (fnBody Try.f29) := loopsL (l := []) (by kernel_rfl) trivial
theorem impl_areItems.b (N : Nat) (x0 : den (.sl 24 (.sl 2 (.int .i64)))) : body (impl_areItems.cfg N) N Try.f29 [.one] [.v] [(false, .imm)] [⟨(.sl 24 (.sl 2 (.int .i64))), .imm, x0⟩] (fun r i => some (r, i)) = bindO (impl_areItems N x0) fun r => some ([⟨.bool, .imm, r⟩], []) := by
  show _ = bindF _ _
  conv => rhs; simp only [impl_areItems, bindF_ifB, bindF_bindO, bindF_pure, bindF_none, bindF_onSum]
  kernel_rfl
theorem impl_areItems.ok (N : Nat) : ConOk Try.prog 29 [.one] (impl_areItems.con N) := by
  refine conOk_mk (g := impl_areItems.cfg N) (N := N) (res := [(false, .imm)]) tys_ok (impl_areItems.cons N) mixed Try.func29 (impl_areItems.ls N) rfl rfl ?_
  intro ds R k y h
  cases ds with
  | nil => exact none_some h
  | cons d0 ds =>
  cases ds with
  | cons _ _ => exact none_some h
  | nil =>
  have h0 : (castDm (.sl 24 (.sl 2 (.int .i64))) .imm d0 fun x0 => bindO (impl_areItems N x0) fun r => k [⟨.bool, .imm, r⟩] []) = some y := h
  clear h
  obtain ⟨x0, rfl, h1⟩ := castDm_eq h0
  exact con_fin (impl_areItems.b N x0) h1
theorem impl_areItems.det (N : Nat) : ConDet (impl_areItems.con N) := by
  intro ds R k y h
  cases ds with
  | nil => exact none_some h
  | cons d0 ds =>
  cases ds with
  | cons _ _ => exact none_some h
  | nil =>
  have h0 : (castDm (.sl 24 (.sl 2 (.int .i64))) .imm d0 fun x0 => bindO (impl_areItems N x0) fun r => k [⟨.bool, .imm, r⟩] []) = some y := h
  clear h
  obtain ⟨x0, rfl, h1⟩ := castDm_eq h0
  obtain ⟨r, e, h⟩ := bindO_some h1
  refine ⟨_, _, h, fun k' => ?_⟩
  show (castDm (.sl 24 (.sl 2 (.int .i64))) .imm (⟨(.sl 24 (.sl 2 (.int .i64))), .imm, x0⟩ : Dy) fun x0 => bindO (impl_areItems N x0) fun r => k' [⟨.bool, .imm, r⟩] []) = _
  simp only [castDm_self]
  rw [e]
  rfl
noncomputable def impl_size_SSint64.con (N : Nat) : Con := { modes := [.v], ptrs := [false], fn := fun ds k => match ds with | [d0] => castDm (.sl 24 (.sl 2 (.int .i64))) .imm d0 fun x0 => bindO (impl_size_SSint64 N x0) fun r => k [⟨(.int .i64), .imm, r⟩] [] | _ => none }
noncomputable def impl_size_SSint64.cfg (N : Nat) : Cfg := { ty := tys, keep := [], flt := [], elm := [(22, (.own .imm)), (23, (.own (.own .imm))), (24, (.own .imm)), (25, (.pr (.own (.own .imm)) (.pr .imm (.pr (.own .imm) .imm)))), (26, (.pr (.own (.own .imm)) (.pr .imm (.pr (.own .imm) .imm)))), (37, (.pr (.pr (.own (.own .imm)) (.pr .imm (.pr (.own .imm) .imm))) (.pr (.own .imm) .imm))), (38, (.pr (.pr (.own (.own .imm)) (.pr .imm (.pr (.own .imm) .imm))) (.pr (.own .imm) .imm))), (54, (.pr (.own .imm) .imm)), (55, (.pr (.own .imm) .imm)), (58, (.own .imm))], live := [], ord := [], con := [], loops := [], joins := [] }
theorem impl_size_SSint64.cons (N : Nat) : ConsOk Try.prog (impl_size_SSint64.cfg N).con := consOk_nil
theorem impl_size_SSint64.ls (N : Nat) : LoopsOk Try.prog (impl_size_SSint64.cfg N) (fnBody Try.f28) := loopsL (l := []) (by kernel_rfl) trivial
theorem impl_size_SSint64.b (N : Nat) (x0 : den (.sl 24 (.sl 2 (.int .i64)))) : body (impl_size_SSint64.cfg N) N Try.f28 [.one] [.v] [(false, .imm)] [⟨(.sl 24 (.sl 2 (.int .i64))), .imm, x0⟩] (fun r i => some (r, i)) = bindO (impl_size_SSint64 N x0) fun r => some ([⟨(.int .i64), .imm, r⟩], []) := by
  show _ = bindF _ _
  conv => rhs; simp only [impl_size_SSint64, bindF_ifB, bindF_bindO, bindF_pure, bindF_none, bindF_onSum]
  kernel_rfl
theorem impl_size_SSint64.ok (N : Nat) : ConOk Try.prog 28 [.one] (impl_size_SSint64.con N) := by
  refine conOk_mk (g := impl_size_SSint64.cfg N) (N := N) (res := [(false, .imm)]) tys_ok (impl_size_SSint64.cons N) mixed Try.func28 (impl_size_SSint64.ls N) rfl rfl ?_
  intro ds R k y h
  cases ds with
  | nil => exact none_some h
  | cons d0 ds =>
  cases ds with
  | cons _ _ => exact none_some h
  | nil =>
  have h0 : (castDm (.sl 24 (.sl 2 (.int .i64))) .imm d0 fun x0 => bindO (impl_size_SSint64 N x0) fun r => k [⟨(.int .i64), .imm, r⟩] []) = some y := h
  clear h
  obtain ⟨x0, rfl, h1⟩ := castDm_eq h0
  exact con_fin (impl_size_SSint64.b N x0) h1
theorem impl_size_SSint64.det (N : Nat) : ConDet (impl_size_SSint64.con N) := by
  intro ds R k y h
  cases ds with
  | nil => exact none_some h
  | cons d0 ds =>
  cases ds with
  | cons _ _ => exact none_some h
  | nil =>
  have h0 : (castDm (.sl 24 (.sl 2 (.int .i64))) .imm d0 fun x0 => bindO (impl_size_SSint64 N x0) fun r => k [⟨(.int .i64), .imm, r⟩] []) = some y := h
  clear h
  obtain ⟨x0, rfl, h1⟩ := castDm_eq h0
  obtain ⟨r, e, h⟩ := bindO_some h1
  refine ⟨_, _, h, fun k' => ?_⟩
  show (castDm (.sl 24 (.sl 2 (.int .i64))) .imm (⟨(.sl 24 (.sl 2 (.int .i64))), .imm, x0⟩ : Dy) fun x0 => bindO (impl_size_SSint64 N x0) fun r => k' [⟨(.int .i64), .imm, r⟩] []) = _
  simp only [castDm_self]
  rw [e]
  rfl
noncomputable def impl_HistRight.con (N : Nat) : Con := { modes := [.v], ptrs := [false], fn := fun ds k => match ds with | [d0] => castDm (.pair (.sl 24 (.sl 2 (.int .i64))) (.pair (.int .i64) (.pair (.sl 2 (.int .i64)) .unit))) .imm d0 fun x0 => bindO (impl_HistRight N x0) fun r => k [⟨.bool, .imm, r⟩] [] | _ => none }
noncomputable def impl_HistRight.cfg (N : Nat) : Cfg := { ty := tys, keep := [10, 17, 18, 23], flt := [], elm := [(22, (.own .imm)), (23, (.own (.own .imm))), (24, (.own .imm)), (25, (.pr (.own (.own .imm)) (.pr .imm (.pr (.own .imm) .imm)))), (26, (.pr (.own (.own .imm)) (.pr .imm (.pr (.own .imm) .imm)))), (37, (.pr (.pr (.own (.own .imm)) (.pr .imm (.pr (.own .imm) .imm))) (.pr (.own .imm) .imm))), (38, (.pr (.pr (.own (.own .imm)) (.pr .imm (.pr (.own .imm) .imm))) (.pr (.own .imm) .imm))), (54, (.pr (.own .imm) .imm)), (55, (.pr (.own .imm) .imm)), (58, (.own .imm))], live := [], ord := [(1, [0, 1, 2, 3, 4, 5, 6, 7, 8, 9, 10, 11, 12, 13, 14, 15, 16, 17, 18, 19, 20, 21, 22])], con := [((29, [.one]), impl_areItems.con N), ((28, [.one]), impl_size_SSint64.con N), ((30, [.one, .one, .one]), impl_within.con N), ((25, [.one]), impl_PointsRight.con N)], loops := [], joins := [] }
theorem impl_HistRight.cons (N : Nat) : ConsOk Try.prog (impl_HistRight.cfg N).con := (consOk_cons (hb29) (impl_areItems.ok N) (impl_areItems.det N) (consOk_cons (hb28) (impl_size_SSint64.ok N) (impl_size_SSint64.det N) (consOk_cons (hb30) (impl_within.ok N) (impl_within.det N) (consOk_cons (hb25) (impl_PointsRight.ok N) (impl_PointsRight.det N) consOk_nil))))
theorem impl_HistRight.ls (N : Nat) : LoopsOk Try.prog (impl_HistRight.cfg N) (fnBody Try.f9) := loopsL (l := []) (by kernel_rfl) trivial
theorem impl_HistRight.b (N : Nat) (x0 : den (.pair (.sl 24 (.sl 2 (.int .i64))) (.pair (.int .i64) (.pair (.sl 2 (.int .i64)) .unit)))) : body (impl_HistRight.cfg N) N Try.f9 [.one] [.v] [(false, .imm)] [⟨(.pair (.sl 24 (.sl 2 (.int .i64))) (.pair (.int .i64) (.pair (.sl 2 (.int .i64)) .unit))), .imm, x0⟩] (fun r i => some (r, i)) = bindO (impl_HistRight N x0) fun r => some ([⟨.bool, .imm, r⟩], []) := by
  show _ = bindF _ _
  conv => rhs; simp only [impl_HistRight, bindF_ifB, bindF_bindO, bindF_pure, bindF_none, bindF_onSum]
  kernel_rfl
theorem impl_HistRight.ok (N : Nat) : ConOk Try.prog 9 [.one] (impl_HistRight.con N) := by
  refine conOk_mk (g := impl_HistRight.cfg N) (N := N) (res := [(false, .imm)]) tys_ok (impl_HistRight.cons N) mixed Try.func9 (impl_HistRight.ls N) rfl rfl ?_
  intro ds R k y h
  cases ds with
  | nil => exact none_some h
  | cons d0 ds =>
  cases ds with
  | cons _ _ => exact none_some h
  | nil =>
  have h0 : (castDm (.pair (.sl 24 (.sl 2 (.int .i64))) (.pair (.int .i64) (.pair (.sl 2 (.int .i64)) .unit))) .imm d0 fun x0 => bindO (impl_HistRight N x0) fun r => k [⟨.bool, .imm, r⟩] []) = some y := h
  clear h
  obtain ⟨x0, rfl, h1⟩ := castDm_eq h0
  exact con_fin (impl_HistRight.b N x0) h1
theorem impl_HistRight.det (N : Nat) : ConDet (impl_HistRight.con N) := by
  intro ds R k y h
  cases ds with
  | nil => exact none_some h
  | cons d0 ds =>
  cases ds with
  | cons _ _ => exact none_some h
  | nil =>
  have h0 : (castDm (.pair (.sl 24 (.sl 2 (.int .i64))) (.pair (.int .i64) (.pair (.sl 2 (.int .i64)) .unit))) .imm d0 fun x0 => bindO (impl_HistRight N x0) fun r => k [⟨.bool, .imm, r⟩] []) = some y := h
  clear h
  obtain ⟨x0, rfl, h1⟩ := castDm_eq h0
  obtain ⟨r, e, h⟩ := bindO_some h1
  refine ⟨_, _, h, fun k' => ?_⟩
  show (castDm (.pair (.sl 24 (.sl 2 (.int .i64))) (.pair (.int .i64) (.pair (.sl 2 (.int .i64)) .unit))) .imm (⟨(.pair (.sl 24 (.sl 2 (.int .i64))) (.pair (.int .i64) (.pair (.sl 2 (.int .i64)) .unit))), .imm, x0⟩ : Dy) fun x0 => bindO (impl_HistRight N x0) fun r => k' [⟨.bool, .imm, r⟩] []) = _
  simp only [castDm_self]
  rw [e]
  rfl
def slices_Equal_Sint64_int64.sk4 : Skel := ⟨[.pv (.sl 2 (.int .i64)), .pv (.sl 2 (.int .i64)), .dead, .dead, .dead, .dead, .dead, .dead, .dead, .dead, .dead, .dead, .pv (.int .i64), .pv (.int .i64), .dead, .dead, .dead, .dead, .dead, .dead, .dead, .dead, .dead, .dead, .dead, .dead], []⟩
def slices_Equal_Sint64_int64.xs4 : List XS := [⟨.exit 0, [], ⟨[.dead, .dead, .dead, .dead, .dead, .dead, .dead, .dead, .dead, .dead, .dead, .dead, .dead, .dead, .dead, .dead, .dead, .dead, .dead, .dead, .dead, .dead, .dead, .dead, .dead, .dead], []⟩⟩, ⟨.ret, [4], ⟨[.dead, .dead, .dead, .dead, .pv .bool, .dead, .dead, .dead, .dead, .dead, .dead, .dead, .dead, .dead, .dead, .dead, .dead, .dead, .dead, .dead, .dead, .dead, .dead, .dead, .dead, .dead], []⟩⟩]
noncomputable def slices_Equal_Sint64_int64.con (N : Nat) : Con := { modes := [.v, .v], ptrs := [false], fn := fun ds k => match ds with | [d0, d1] => castDm (.sl 2 (.int .i64)) .imm d0 fun x0 => castDm (.sl 2 (.int .i64)) .imm d1 fun x1 => bindO (slices_Equal_Sint64_int64 N x0 x1) fun r => k [⟨.bool, .imm, r⟩] [] | _ => none }
noncomputable def slices_Equal_Sint64_int64.cfg (N : Nat) : Cfg := { ty := tys, keep := [], flt := [], elm := [(22, (.own .imm)), (23, (.own (.own .imm))), (24, (.own .imm)), (25, (.pr (.own (.own .imm)) (.pr .imm (.pr (.own .imm) .imm)))), (26, (.pr (.own (.own .imm)) (.pr .imm (.pr (.own .imm) .imm)))), (37, (.pr (.pr (.own (.own .imm)) (.pr .imm (.pr (.own .imm) .imm))) (.pr (.own .imm) .imm))), (38, (.pr (.pr (.own (.own .imm)) (.pr .imm (.pr (.own .imm) .imm))) (.pr (.own .imm) .imm))), (54, (.pr (.own .imm) .imm)), (55, (.pr (.own .imm) .imm)), (58, (.own .imm))], live := [(4, [0, 1, 12, 13])], ord := [(6, [0, 1, 2, 3, 4, 5, 6, 7, 8])], con := [], loops := [(4, loopCon N slices_Equal_Sint64_int64.sk4 slices_Equal_Sint64_int64.xs4 (fun {R} => slices_Equal_Sint64_int64.l4 (R := R) N))], joins := [] }
theorem slices_Equal_Sint64_int64.cons (N : Nat) : ConsOk Try.prog (slices_Equal_Sint64_int64.cfg N).con := consOk_nil
theorem slices_Equal_Sint64_int64.h4 {R : Type} (N : Nat) (d : slices_Equal_Sint64_int64.sk4.D) (kn : slices_Equal_Sint64_int64.sk4.D → Option R) (kx : XD slices_Equal_Sint64_int64.xs4 → Option R) : roundK (slices_Equal_Sint64_int64.cfg N) N (nthLoop (fnBody Try.f26) 0) slices_Equal_Sint64_int64.sk4 slices_Equal_Sint64_int64.xs4 d kn kx = slices_Equal_Sint64_int64.l4 N d kn kx := by kernel_rfl
theorem slices_Equal_Sint64_int64.i4 (N : Nat) : LoopsOk Try.prog (slices_Equal_Sint64_int64.cfg N) (nthLoop (fnBody Try.f26) 0) := loopsL (l := []) (by kernel_rfl) trivial
theorem slices_Equal_Sint64_int64.o4 (N : Nat) : LoopOk Try.prog (nthLoop (fnBody Try.f26) 0) (loopCon N slices_Equal_Sint64_int64.sk4 slices_Equal_Sint64_int64.xs4 (fun {R} => slices_Equal_Sint64_int64.l4 (R := R) N)) := loop_ok (g := slices_Equal_Sint64_int64.cfg N) tys_ok (slices_Equal_Sint64_int64.cons N) mixed (slices_Equal_Sint64_int64.i4 N) (fun d kn kx => slices_Equal_Sint64_int64.h4 N d kn kx)
theorem slices_Equal_Sint64_int64.ls (N : Nat) : LoopsOk Try.prog (slices_Equal_Sint64_int64.cfg N) (fnBody Try.f26) := loopsL (l := [nthLoop (fnBody Try.f26) 0]) (by kernel_rfl) ⟨loopOne (L0 := loopCon N slices_Equal_Sint64_int64.sk4 slices_Equal_Sint64_int64.xs4 (fun {R} => slices_Equal_Sint64_int64.l4 (R := R) N)) (id := 4) (by kernel_rfl) (by kernel_rfl) (slices_Equal_Sint64_int64.o4 N), trivial⟩
theorem slices_Equal_Sint64_int64.q4 {R R' : Type} {N n : Nat} {d} {k} {g : R → Option R'} : bindF (loopP (slices_Equal_Sint64_int64.l4 N) n d k) g = loopP (slices_Equal_Sint64_int64.l4 N) n d fun e => bindF (k e) g := bindF_loopP (fun d kn kx => by simp only [slices_Equal_Sint64_int64.l4, bindF_ifB, bindF_bindO, bindF_pure, bindF_none, bindF_onSum]) n d k
theorem slices_Equal_Sint64_int64.b (N : Nat) (x0 : den (.sl 2 (.int .i64))) (x1 : den (.sl 2 (.int .i64))) : body (slices_Equal_Sint64_int64.cfg N) N Try.f26 [.one, .one] [.v, .v] [(false, .imm)] [⟨(.sl 2 (.int .i64)), .imm, x0⟩, ⟨(.sl 2 (.int .i64)), .imm, x1⟩] (fun r i => some (r, i)) = bindO (slices_Equal_Sint64_int64 N x0 x1) fun r => some ([⟨.bool, .imm, r⟩], []) := by
  show _ = bindF _ _
  conv => rhs; simp only [slices_Equal_Sint64_int64, bindF_ifB, bindF_bindO, bindF_pure, bindF_none, bindF_onSum, slices_Equal_Sint64_int64.q4]
  kernel_rfl
theorem slices_Equal_Sint64_int64.ok (N : Nat) : ConOk Try.prog 26 [.one, .one] (slices_Equal_Sint64_int64.con N) := by
  refine conOk_mk (g := slices_Equal_Sint64_int64.cfg N) (N := N) (res := [(false, .imm)]) tys_ok (slices_Equal_Sint64_int64.cons N) mixed Try.func26 (slices_Equal_Sint64_int64.ls N) rfl rfl ?_
  intro ds R k y h
  cases ds with
  | nil => exact none_some h
  | cons d0 ds =>
  cases ds with
  | nil => exact none_some h
  | cons d1 ds =>
  cases ds with
  | cons _ _ => exact none_some h
  | nil =>
  have h0 : (castDm (.sl 2 (.int .i64)) .imm d0 fun x0 => castDm (.sl 2 (.int .i64)) .imm d1 fun x1 => bindO (slices_Equal_Sint64_int64 N x0 x1) fun r => k [⟨.bool, .imm, r⟩] []) = some y := h
  clear h
  obtain ⟨x0, rfl, h1⟩ := castDm_eq h0
  obtain ⟨x1, rfl, h2⟩ := castDm_eq h1
  exact con_fin (slices_Equal_Sint64_int64.b N x0 x1) h2
theorem slices_Equal_Sint64_int64.det (N : Nat) : ConDet (slices_Equal_Sint64_int64.con N) := by
  intro ds R k y h
  cases ds with
  | nil => exact none_some h
  | cons d0 ds =>
  cases ds with
  | nil => exact none_some h
  | cons d1 ds =>
  cases ds with
  | cons _ _ => exact none_some h
  | nil =>
  have h0 : (castDm (.sl 2 (.int .i64)) .imm d0 fun x0 => castDm (.sl 2 (.int .i64)) .imm d1 fun x1 => bindO (slices_Equal_Sint64_int64 N x0 x1) fun r => k [⟨.bool, .imm, r⟩] []) = some y := h
  clear h
  obtain ⟨x0, rfl, h1⟩ := castDm_eq h0
  obtain ⟨x1, rfl, h2⟩ := castDm_eq h1
  obtain ⟨r, e, h⟩ := bindO_some h2
  refine ⟨_, _, h, fun k' => ?_⟩
  show (castDm (.sl 2 (.int .i64)) .imm (⟨(.sl 2 (.int .i64)), .imm, x0⟩ : Dy) fun x0 => castDm (.sl 2 (.int .i64)) .imm (⟨(.sl 2 (.int .i64)), .imm, x1⟩ : Dy) fun x1 => bindO (slices_Equal_Sint64_int64 N x0 x1) fun r => k' [⟨.bool, .imm, r⟩] []) = _
  simp only [castDm_self]
  rw [e]
  rfl
end Go.AE.F
