/- The printed functions are what the program comes to: contracts. -/
import Derived.Test.YtfmifmmajilgmaaLCompPutL2
namespace Go.AE.F
open Go.AE Go.Proofs
set_option maxRecDepth 100000
def slices_IndexFunc_Sint64_int64__impl_PointsRight_c1.sk2 : Skel := ⟨[.pv (.sl 2 (.int .i64)), .fn 59 [], .dead, .dead, .dead, .dead, .dead, .pv (.int .i64), .pv (.int .i64), .dead, .dead, .dead, .dead, .dead, .dead, .dead, .dead, .dead, .dead], []⟩
def slices_IndexFunc_Sint64_int64__impl_PointsRight_c1.xs2 : List XS := [⟨.exit 0, [], ⟨[.dead, .dead, .dead, .dead, .dead, .dead, .dead, .dead, .dead, .dead, .dead, .dead, .dead, .dead, .dead, .dead, .dead, .dead, .dead], []⟩⟩, ⟨.ret, [4], ⟨[.dead, .dead, .dead, .dead, .pv (.int .i64), .dead, .dead, .dead, .dead, .dead, .dead, .dead, .dead, .dead, .dead, .dead, .dead, .dead, .dead], []⟩⟩]
noncomputable def slices_IndexFunc_Sint64_int64__impl_PointsRight_c1.con (N : Nat) : Con := { modes := [.v], ptrs := [false], fn := fun ds k => match ds with | [d0] => castDm (.sl 2 (.int .i64)) .imm d0 fun x0 => bindO (slices_IndexFunc_Sint64_int64__impl_PointsRight_c1 N x0) fun r => k [⟨(.int .i64), .imm, r⟩] [] | _ => none }
noncomputable def slices_IndexFunc_Sint64_int64__impl_PointsRight_c1.cfg (N : Nat) : Cfg := { ty := tys, keep := [16], flt := [], elm := [(22, (.own .imm)), (23, (.own .imm)), (24, (.pr (.own .imm) .imm)), (25, (.pr (.own .imm) .imm)), (26, (.own (.own .imm))), (29, (.pr (.pr (.own .imm) .imm) (.pr (.own .imm) .imm))), (30, (.pr (.pr (.own .imm) .imm) (.pr (.own .imm) .imm))), (54, (.pr (.own .imm) .imm)), (55, (.pr (.own .imm) .imm)), (61, (.own .imm))], live := [(2, [0, 1, 7, 8])], ord := [], con := [((59, [.one]), impl_PointsRight_c1.con N)], loops := [(2, loopCon N slices_IndexFunc_Sint64_int64__impl_PointsRight_c1.sk2 slices_IndexFunc_Sint64_int64__impl_PointsRight_c1.xs2 (fun {R} => slices_IndexFunc_Sint64_int64__impl_PointsRight_c1.l2 (R := R) N))], joins := [] }
theorem slices_IndexFunc_Sint64_int64__impl_PointsRight_c1.cons (N : Nat) : ConsOk Try.prog (slices_IndexFunc_Sint64_int64__impl_PointsRight_c1.cfg N).con := (consOk_cons (hb59) (impl_PointsRight_c1.ok N) (impl_PointsRight_c1.det N) consOk_nil)
theorem slices_IndexFunc_Sint64_int64__impl_PointsRight_c1.h2 {R : Type} (N : Nat) (d : slices_IndexFunc_Sint64_int64__impl_PointsRight_c1.sk2.D) (kn : slices_IndexFunc_Sint64_int64__impl_PointsRight_c1.sk2.D → Option R) (kx : XD slices_IndexFunc_Sint64_int64__impl_PointsRight_c1.xs2 → Option R) : roundK (slices_IndexFunc_Sint64_int64__impl_PointsRight_c1.cfg N) N (nthLoop (fnBody Try.f67) 0) slices_IndexFunc_Sint64_int64__impl_PointsRight_c1.sk2 slices_IndexFunc_Sint64_int64__impl_PointsRight_c1.xs2 d kn kx = slices_IndexFunc_Sint64_int64__impl_PointsRight_c1.l2 N d kn kx := by kernel_rfl
theorem slices_IndexFunc_Sint64_int64__impl_PointsRight_c1.i2 (N : Nat) : LoopsOk Try.prog (slices_IndexFunc_Sint64_int64__impl_PointsRight_c1.cfg N) (nthLoop (fnBody Try.f67) 0) := loopsL (l := []) (by kernel_rfl) trivial
theorem slices_IndexFunc_Sint64_int64__impl_PointsRight_c1.o2 (N : Nat) : LoopOk Try.prog (nthLoop (fnBody Try.f67) 0) (loopCon N slices_IndexFunc_Sint64_int64__impl_PointsRight_c1.sk2 slices_IndexFunc_Sint64_int64__impl_PointsRight_c1.xs2 (fun {R} => slices_IndexFunc_Sint64_int64__impl_PointsRight_c1.l2 (R := R) N)) := loop_ok (g := slices_IndexFunc_Sint64_int64__impl_PointsRight_c1.cfg N) tys_ok (slices_IndexFunc_Sint64_int64__impl_PointsRight_c1.cons N) mixed (slices_IndexFunc_Sint64_int64__impl_PointsRight_c1.i2 N) (fun d kn kx => slices_IndexFunc_Sint64_int64__impl_PointsRight_c1.h2 N d kn kx)
theorem slices_IndexFunc_Sint64_int64__impl_PointsRight_c1.ls (N : Nat) : LoopsOk Try.prog (slices_IndexFunc_Sint64_int64__impl_PointsRight_c1.cfg N) (fnBody Try.f67) := loopsL (l := [nthLoop (fnBody Try.f67) 0]) (by kernel_rfl) ⟨loopOne (L0 := loopCon N slices_IndexFunc_Sint64_int64__impl_PointsRight_c1.sk2 slices_IndexFunc_Sint64_int64__impl_PointsRight_c1.xs2 (fun {R} => slices_IndexFunc_Sint64_int64__impl_PointsRight_c1.l2 (R := R) N)) (id := 2) (by kernel_rfl) (by kernel_rfl) (slices_IndexFunc_Sint64_int64__impl_PointsRight_c1.o2 N), trivial⟩
theorem slices_IndexFunc_Sint64_int64__impl_PointsRight_c1.q2 {R R' : Type} {N n : Nat} {d} {k} {g : R → Option R'} : bindF (loopP (slices_IndexFunc_Sint64_int64__impl_PointsRight_c1.l2 N) n d k) g = loopP (slices_IndexFunc_Sint64_int64__impl_PointsRight_c1.l2 N) n d fun e => bindF (k e) g := bindF_loopP (fun d kn kx => by simp only [slices_IndexFunc_Sint64_int64__impl_PointsRight_c1.l2, bindF_ifB, bindF_bindO, bindF_pure, bindF_none, bindF_onSum]) n d k
theorem slices_IndexFunc_Sint64_int64__impl_PointsRight_c1.b (N : Nat) (x0 : den (.sl 2 (.int .i64))) : body (slices_IndexFunc_Sint64_int64__impl_PointsRight_c1.cfg N) N Try.f67 [.one, .fn 59 0] [.v] [(false, .imm)] [⟨(.sl 2 (.int .i64)), .imm, x0⟩] (fun r i => some (r, i)) = bindO (slices_IndexFunc_Sint64_int64__impl_PointsRight_c1 N x0) fun r => some ([⟨(.int .i64), .imm, r⟩], []) := by
  show _ = bindF _ _
  conv => rhs; simp only [slices_IndexFunc_Sint64_int64__impl_PointsRight_c1, bindF_ifB, bindF_bindO, bindF_pure, bindF_none, bindF_onSum, slices_IndexFunc_Sint64_int64__impl_PointsRight_c1.q2]
  kernel_rfl
theorem slices_IndexFunc_Sint64_int64__impl_PointsRight_c1.ok (N : Nat) : ConOk Try.prog 67 [.one, .fn 59 0] (slices_IndexFunc_Sint64_int64__impl_PointsRight_c1.con N) := by
  refine conOk_mk (g := slices_IndexFunc_Sint64_int64__impl_PointsRight_c1.cfg N) (N := N) (res := [(false, .imm)]) tys_ok (slices_IndexFunc_Sint64_int64__impl_PointsRight_c1.cons N) mixed Try.func67 (slices_IndexFunc_Sint64_int64__impl_PointsRight_c1.ls N) rfl rfl ?_
  intro ds R k y h
  cases ds with
  | nil => exact none_some h
  | cons d0 ds =>
  cases ds with
  | cons _ _ => exact none_some h
  | nil =>
  have h0 : (castDm (.sl 2 (.int .i64)) .imm d0 fun x0 => bindO (slices_IndexFunc_Sint64_int64__impl_PointsRight_c1 N x0) fun r => k [⟨(.int .i64), .imm, r⟩] []) = some y := h
  clear h
  obtain ⟨x0, rfl, h1⟩ := castDm_eq h0
  exact con_fin (slices_IndexFunc_Sint64_int64__impl_PointsRight_c1.b N x0) h1
theorem slices_IndexFunc_Sint64_int64__impl_PointsRight_c1.det (N : Nat) : ConDet (slices_IndexFunc_Sint64_int64__impl_PointsRight_c1.con N) := by
  intro ds R k y h
  cases ds with
  | nil => exact none_some h
  | cons d0 ds =>
  cases ds with
  | cons _ _ => exact none_some h
  | nil =>
  have h0 : (castDm (.sl 2 (.int .i64)) .imm d0 fun x0 => bindO (slices_IndexFunc_Sint64_int64__impl_PointsRight_c1 N x0) fun r => k [⟨(.int .i64), .imm, r⟩] []) = some y := h
  clear h
  obtain ⟨x0, rfl, h1⟩ := castDm_eq h0
  obtain ⟨r, e, h⟩ := bindO_some h1
  refine ⟨_, _, h, fun k' => ?_⟩
  show (castDm (.sl 2 (.int .i64)) .imm (⟨(.sl 2 (.int .i64)), .imm, x0⟩ : Dy) fun x0 => bindO (slices_IndexFunc_Sint64_int64__impl_PointsRight_c1 N x0) fun r => k' [⟨(.int .i64), .imm, r⟩] []) = _
  simp only [castDm_self]
  rw [e]
  rfl
noncomputable def slices_ContainsFunc_Sint64_int64__impl_PointsRight_c1.con (N : Nat) : Con := { modes := [.v], ptrs := [false], fn := fun ds k => match ds with | [d0] => castDm (.sl 2 (.int .i64)) .imm d0 fun x0 => bindO (slices_ContainsFunc_Sint64_int64__impl_PointsRight_c1 N x0) fun r => k [⟨.bool, .imm, r⟩] [] | _ => none }
noncomputable def slices_ContainsFunc_Sint64_int64__impl_PointsRight_c1.cfg (N : Nat) : Cfg := { ty := tys, keep := [7], flt := [], elm := [(22, (.own .imm)), (23, (.own .imm)), (24, (.pr (.own .imm) .imm)), (25, (.pr (.own .imm) .imm)), (26, (.own (.own .imm))), (29, (.pr (.pr (.own .imm) .imm) (.pr (.own .imm) .imm))), (30, (.pr (.pr (.own .imm) .imm) (.pr (.own .imm) .imm))), (54, (.pr (.own .imm) .imm)), (55, (.pr (.own .imm) .imm)), (61, (.own .imm))], live := [], ord := [], con := [((67, [.one, .fn 59 0]), slices_IndexFunc_Sint64_int64__impl_PointsRight_c1.con N)], loops := [], joins := [] }
theorem slices_ContainsFunc_Sint64_int64__impl_PointsRight_c1.cons (N : Nat) : ConsOk Try.prog (slices_ContainsFunc_Sint64_int64__impl_PointsRight_c1.cfg N).con := (consOk_cons (hb67) (slices_IndexFunc_Sint64_int64__impl_PointsRight_c1.ok N) (slices_IndexFunc_Sint64_int64__impl_PointsRight_c1.det N) consOk_nil)
theorem slices_ContainsFunc_Sint64_int64__impl_PointsRight_c1.ls (N : Nat) : LoopsOk Try.prog (slices_ContainsFunc_Sint64_int64__impl_PointsRight_c1.cfg N) (fnBody Try.f51) := loopsL (l := []) (by kernel_rfl) trivial
theorem slices_ContainsFunc_Sint64_int64__impl_PointsRight_c1.b (N : Nat) (x0 : den (.sl 2 (.int .i64))) : body (slices_ContainsFunc_Sint64_int64__impl_PointsRight_c1.cfg N) N Try.f51 [.one, .fn 59 0] [.v] [(false, .imm)] [⟨(.sl 2 (.int .i64)), .imm, x0⟩] (fun r i => some (r, i)) = bindO (slices_ContainsFunc_Sint64_int64__impl_PointsRight_c1 N x0) fun r => some ([⟨.bool, .imm, r⟩], []) := by
  show _ = bindF _ _
  conv => rhs; simp only [slices_ContainsFunc_Sint64_int64__impl_PointsRight_c1, bindF_ifB, bindF_bindO, bindF_pure, bindF_none, bindF_onSum]
  kernel_rfl
theorem slices_ContainsFunc_Sint64_int64__impl_PointsRight_c1.ok (N : Nat) : ConOk Try.prog 51 [.one, .fn 59 0] (slices_ContainsFunc_Sint64_int64__impl_PointsRight_c1.con N) := by
  refine conOk_mk (g := slices_ContainsFunc_Sint64_int64__impl_PointsRight_c1.cfg N) (N := N) (res := [(false, .imm)]) tys_ok (slices_ContainsFunc_Sint64_int64__impl_PointsRight_c1.cons N) mixed Try.func51 (slices_ContainsFunc_Sint64_int64__impl_PointsRight_c1.ls N) rfl rfl ?_
  intro ds R k y h
  cases ds with
  | nil => exact none_some h
  | cons d0 ds =>
  cases ds with
  | cons _ _ => exact none_some h
  | nil =>
  have h0 : (castDm (.sl 2 (.int .i64)) .imm d0 fun x0 => bindO (slices_ContainsFunc_Sint64_int64__impl_PointsRight_c1 N x0) fun r => k [⟨.bool, .imm, r⟩] []) = some y := h
  clear h
  obtain ⟨x0, rfl, h1⟩ := castDm_eq h0
  exact con_fin (slices_ContainsFunc_Sint64_int64__impl_PointsRight_c1.b N x0) h1
theorem slices_ContainsFunc_Sint64_int64__impl_PointsRight_c1.det (N : Nat) : ConDet (slices_ContainsFunc_Sint64_int64__impl_PointsRight_c1.con N) := by
  intro ds R k y h
  cases ds with
  | nil => exact none_some h
  | cons d0 ds =>
  cases ds with
  | cons _ _ => exact none_some h
  | nil =>
  have h0 : (castDm (.sl 2 (.int .i64)) .imm d0 fun x0 => bindO (slices_ContainsFunc_Sint64_int64__impl_PointsRight_c1 N x0) fun r => k [⟨.bool, .imm, r⟩] []) = some y := h
  clear h
  obtain ⟨x0, rfl, h1⟩ := castDm_eq h0
  obtain ⟨r, e, h⟩ := bindO_some h1
  refine ⟨_, _, h, fun k' => ?_⟩
  show (castDm (.sl 2 (.int .i64)) .imm (⟨(.sl 2 (.int .i64)), .imm, x0⟩ : Dy) fun x0 => bindO (slices_ContainsFunc_Sint64_int64__impl_PointsRight_c1 N x0) fun r => k' [⟨.bool, .imm, r⟩] []) = _
  simp only [castDm_self]
  rw [e]
  rfl
noncomputable def impl_PointsRight.con (N : Nat) : Con := { modes := [.v], ptrs := [false], fn := fun ds k => match ds with | [d0] => castDm (.sl 2 (.int .i64)) .imm d0 fun x0 => bindO (impl_PointsRight N x0) fun r => k [⟨.bool, .imm, r⟩] [] | _ => none }
noncomputable def impl_PointsRight.cfg (N : Nat) : Cfg := { ty := tys, keep := [8], flt := [], elm := [(22, (.own .imm)), (23, (.own .imm)), (24, (.pr (.own .imm) .imm)), (25, (.pr (.own .imm) .imm)), (26, (.own (.own .imm))), (29, (.pr (.pr (.own .imm) .imm) (.pr (.own .imm) .imm))), (30, (.pr (.pr (.own .imm) .imm) (.pr (.own .imm) .imm))), (54, (.pr (.own .imm) .imm)), (55, (.pr (.own .imm) .imm)), (61, (.own .imm))], live := [], ord := [], con := [((51, [.one, .fn 59 0]), slices_ContainsFunc_Sint64_int64__impl_PointsRight_c1.con N)], loops := [], joins := [] }
theorem impl_PointsRight.cons (N : Nat) : ConsOk Try.prog (impl_PointsRight.cfg N).con := (consOk_cons (hb51) (slices_ContainsFunc_Sint64_int64__impl_PointsRight_c1.ok N) (slices_ContainsFunc_Sint64_int64__impl_PointsRight_c1.det N) consOk_nil)
theorem impl_PointsRight.ls (N : Nat) : LoopsOk Try.prog (impl_PointsRight.cfg N) (fnBody Try.f34) := loopsL (l := []) (by kernel_rfl) trivial
theorem impl_PointsRight.b (N : Nat) (x0 : den (.sl 2 (.int .i64))) : body (impl_PointsRight.cfg N) N Try.f34 [.one] [.v] [(false, .imm)] [⟨(.sl 2 (.int .i64)), .imm, x0⟩] (fun r i => some (r, i)) = bindO (impl_PointsRight N x0) fun r => some ([⟨.bool, .imm, r⟩], []) := by
  show _ = bindF _ _
  conv => rhs; simp only [impl_PointsRight, bindF_ifB, bindF_bindO, bindF_pure, bindF_none, bindF_onSum]
  kernel_rfl
theorem impl_PointsRight.ok (N : Nat) : ConOk Try.prog 34 [.one] (impl_PointsRight.con N) := by
  refine conOk_mk (g := impl_PointsRight.cfg N) (N := N) (res := [(false, .imm)]) tys_ok (impl_PointsRight.cons N) mixed Try.func34 (impl_PointsRight.ls N) rfl rfl ?_
  intro ds R k y h
  cases ds with
  | nil => exact none_some h
  | cons d0 ds =>
  cases ds with
  | cons _ _ => exact none_some h
  | nil =>
  have h0 : (castDm (.sl 2 (.int .i64)) .imm d0 fun x0 => bindO (impl_PointsRight N x0) fun r => k [⟨.bool, .imm, r⟩] []) = some y := h
  clear h
  obtain ⟨x0, rfl, h1⟩ := castDm_eq h0
  exact con_fin (impl_PointsRight.b N x0) h1
theorem impl_PointsRight.det (N : Nat) : ConDet (impl_PointsRight.con N) := by
  intro ds R k y h
  cases ds with
  | nil => exact none_some h
  | cons d0 ds =>
  cases ds with
  | cons _ _ => exact none_some h
  | nil =>
  have h0 : (castDm (.sl 2 (.int .i64)) .imm d0 fun x0 => bindO (impl_PointsRight N x0) fun r => k [⟨.bool, .imm, r⟩] []) = some y := h
  clear h
  obtain ⟨x0, rfl, h1⟩ := castDm_eq h0
  obtain ⟨r, e, h⟩ := bindO_some h1
  refine ⟨_, _, h, fun k' => ?_⟩
  show (castDm (.sl 2 (.int .i64)) .imm (⟨(.sl 2 (.int .i64)), .imm, x0⟩ : Dy) fun x0 => bindO (impl_PointsRight N x0) fun r => k' [⟨.bool, .imm, r⟩] []) = _
  simp only [castDm_self]
  rw [e]
  rfl
noncomputable def impl_size_Sint64.con (N : Nat) : Con := { modes := [.v], ptrs := [false], fn := fun ds k => match ds with | [d0] => castDm (.sl 2 (.int .i64)) .imm d0 fun x0 => bindO (impl_size_Sint64 N x0) fun r => k [⟨(.int .i64), .imm, r⟩] [] | _ => none }
noncomputable def impl_size_Sint64.cfg (N : Nat) : Cfg := { ty := tys, keep := [], flt := [], elm := [(22, (.own .imm)), (23, (.own .imm)), (24, (.pr (.own .imm) .imm)), (25, (.pr (.own .imm) .imm)), (26, (.own (.own .imm))), (29, (.pr (.pr (.own .imm) .imm) (.pr (.own .imm) .imm))), (30, (.pr (.pr (.own .imm) .imm) (.pr (.own .imm) .imm))), (54, (.pr (.own .imm) .imm)), (55, (.pr (.own .imm) .imm)), (61, (.own .imm))], live := [], ord := [], con := [], loops := [], joins := [] }
theorem impl_size_Sint64.cons (N : Nat) : ConsOk Try.prog (impl_size_Sint64.cfg N).con := consOk_nil
theorem impl_size_Sint64.ls (N : Nat) : LoopsOk Try.prog (impl_size_Sint64.cfg N) (fnBody Try.f50) := loopsL (l := []) (by kernel_rfl) trivial
theorem impl_size_Sint64.b (N : Nat) (x0 : den (.sl 2 (.int .i64))) : body (impl_size_Sint64.cfg N) N Try.f50 [.one] [.v] [(false, .imm)] [⟨(.sl 2 (.int .i64)), .imm, x0⟩] (fun r i => some (r, i)) = bindO (impl_size_Sint64 N x0) fun r => some ([⟨(.int .i64), .imm, r⟩], []) := by
  show _ = bindF _ _
  conv => rhs; simp only [impl_size_Sint64, bindF_ifB, bindF_bindO, bindF_pure, bindF_none, bindF_onSum]
  kernel_rfl
theorem impl_size_Sint64.ok (N : Nat) : ConOk Try.prog 50 [.one] (impl_size_Sint64.con N) := by
  refine conOk_mk (g := impl_size_Sint64.cfg N) (N := N) (res := [(false, .imm)]) tys_ok (impl_size_Sint64.cons N) mixed Try.func50 (impl_size_Sint64.ls N) rfl rfl ?_
  intro ds R k y h
  cases ds with
  | nil => exact none_some h
  | cons d0 ds =>
  cases ds with
  | cons _ _ => exact none_some h
  | nil =>
  have h0 : (castDm (.sl 2 (.int .i64)) .imm d0 fun x0 => bindO (impl_size_Sint64 N x0) fun r => k [⟨(.int .i64), .imm, r⟩] []) = some y := h
  clear h
  obtain ⟨x0, rfl, h1⟩ := castDm_eq h0
  exact con_fin (impl_size_Sint64.b N x0) h1
theorem impl_size_Sint64.det (N : Nat) : ConDet (impl_size_Sint64.con N) := by
  intro ds R k y h
  cases ds with
  | nil => exact none_some h
  | cons d0 ds =>
  cases ds with
  | cons _ _ => exact none_some h
  | nil =>
  have h0 : (castDm (.sl 2 (.int .i64)) .imm d0 fun x0 => bindO (impl_size_Sint64 N x0) fun r => k [⟨(.int .i64), .imm, r⟩] []) = some y := h
  clear h
  obtain ⟨x0, rfl, h1⟩ := castDm_eq h0
  obtain ⟨r, e, h⟩ := bindO_some h1
  refine ⟨_, _, h, fun k' => ?_⟩
  show (castDm (.sl 2 (.int .i64)) .imm (⟨(.sl 2 (.int .i64)), .imm, x0⟩ : Dy) fun x0 => bindO (impl_size_Sint64 N x0) fun r => k' [⟨(.int .i64), .imm, r⟩] []) = _
  simp only [castDm_self]
  rw [e]
  rfl
noncomputable def impl_Buf_isPlace.con (N : Nat) : Con := { modes := [.rd, .v], ptrs := [false], fn := fun ds k => match ds with | [d0, d1] => castDm (.pair (.sl 2 (.int .i64)) (.pair (.int .i64) (.pair (.int .i64) .unit))) .imm d0 fun x0 => castDm (.int .i64) .imm d1 fun x1 => bindO (impl_Buf_isPlace N x0 x1) fun r => k [⟨.bool, .imm, r⟩] [] | _ => none }
noncomputable def impl_Buf_isPlace.cfg (N : Nat) : Cfg := { ty := tys, keep := [10, 11], flt := [], elm := [(22, (.own .imm)), (23, (.own .imm)), (24, (.pr (.own .imm) .imm)), (25, (.pr (.own .imm) .imm)), (26, (.own (.own .imm))), (29, (.pr (.pr (.own .imm) .imm) (.pr (.own .imm) .imm))), (30, (.pr (.pr (.own .imm) .imm) (.pr (.own .imm) .imm))), (54, (.pr (.own .imm) .imm)), (55, (.pr (.own .imm) .imm)), (61, (.own .imm))], live := [], ord := [], con := [((50, [.one]), impl_size_Sint64.con N), ((49, [.one, .one, .one]), impl_within.con N)], loops := [], joins := [] }
theorem impl_Buf_isPlace.cons (N : Nat) : ConsOk Try.prog (impl_Buf_isPlace.cfg N).con := (consOk_cons (hb50) (impl_size_Sint64.ok N) (impl_size_Sint64.det N) (consOk_cons (hb49) (impl_within.ok N) (impl_within.det N) consOk_nil))
theorem impl_Buf_isPlace.ls (N : Nat) : LoopsOk Try.prog (impl_Buf_isPlace.cfg N) (fnBody Try.f46) := loopsL (l := []) (by kernel_rfl) trivial
theorem impl_Buf_isPlace.b (N : Nat) (x0 : den (.pair (.sl 2 (.int .i64)) (.pair (.int .i64) (.pair (.int .i64) .unit)))) (x1 : den (.int .i64)) : body (impl_Buf_isPlace.cfg N) N Try.f46 [.one, .one] [.rd, .v] [(false, .imm)] [⟨(.pair (.sl 2 (.int .i64)) (.pair (.int .i64) (.pair (.int .i64) .unit))), .imm, x0⟩, ⟨(.int .i64), .imm, x1⟩] (fun r i => some (r, i)) = bindO (impl_Buf_isPlace N x0 x1) fun r => some ([⟨.bool, .imm, r⟩], []) := by
  show _ = bindF _ _
  conv => rhs; simp only [impl_Buf_isPlace, bindF_ifB, bindF_bindO, bindF_pure, bindF_none, bindF_onSum]
  kernel_rfl
theorem impl_Buf_isPlace.ok (N : Nat) : ConOk Try.prog 46 [.one, .one] (impl_Buf_isPlace.con N) := by
  refine conOk_mk (g := impl_Buf_isPlace.cfg N) (N := N) (res := [(false, .imm)]) tys_ok (impl_Buf_isPlace.cons N) mixed Try.func46 (impl_Buf_isPlace.ls N) rfl rfl ?_
  intro ds R k y h
  cases ds with
  | nil => exact none_some h
  | cons d0 ds =>
  cases ds with
  | nil => exact none_some h
  | cons d1 ds =>
  cases ds with
  | cons _ _ => exact none_some h
  | nil =>
  have h0 : (castDm (.pair (.sl 2 (.int .i64)) (.pair (.int .i64) (.pair (.int .i64) .unit))) .imm d0 fun x0 => castDm (.int .i64) .imm d1 fun x1 => bindO (impl_Buf_isPlace N x0 x1) fun r => k [⟨.bool, .imm, r⟩] []) = some y := h
  clear h
  obtain ⟨x0, rfl, h1⟩ := castDm_eq h0
  obtain ⟨x1, rfl, h2⟩ := castDm_eq h1
  exact con_fin (impl_Buf_isPlace.b N x0 x1) h2
theorem impl_Buf_isPlace.det (N : Nat) : ConDet (impl_Buf_isPlace.con N) := by
  intro ds R k y h
  cases ds with
  | nil => exact none_some h
  | cons d0 ds =>
  cases ds with
  | nil => exact none_some h
  | cons d1 ds =>
  cases ds with
  | cons _ _ => exact none_some h
  | nil =>
  have h0 : (castDm (.pair (.sl 2 (.int .i64)) (.pair (.int .i64) (.pair (.int .i64) .unit))) .imm d0 fun x0 => castDm (.int .i64) .imm d1 fun x1 => bindO (impl_Buf_isPlace N x0 x1) fun r => k [⟨.bool, .imm, r⟩] []) = some y := h
  clear h
  obtain ⟨x0, rfl, h1⟩ := castDm_eq h0
  obtain ⟨x1, rfl, h2⟩ := castDm_eq h1
  obtain ⟨r, e, h⟩ := bindO_some h2
  refine ⟨_, _, h, fun k' => ?_⟩
  show (castDm (.pair (.sl 2 (.int .i64)) (.pair (.int .i64) (.pair (.int .i64) .unit))) .imm (⟨(.pair (.sl 2 (.int .i64)) (.pair (.int .i64) (.pair (.int .i64) .unit))), .imm, x0⟩ : Dy) fun x0 => castDm (.int .i64) .imm (⟨(.int .i64), .imm, x1⟩ : Dy) fun x1 => bindO (impl_Buf_isPlace N x0 x1) fun r => k' [⟨.bool, .imm, r⟩] []) = _
  simp only [castDm_self]
  rw [e]
  rfl
noncomputable def impl_BufRight.con (N : Nat) : Con := { modes := [.v], ptrs := [false], fn := fun ds k => match ds with | [d0] => castDm (.pair (.sl 2 (.int .i64)) (.pair (.int .i64) (.pair (.int .i64) .unit))) .imm d0 fun x0 => bindO (impl_BufRight N x0) fun r => k [⟨.bool, .imm, r⟩] [] | _ => none }
noncomputable def impl_BufRight.cfg (N : Nat) : Cfg := { ty := tys, keep := [5, 9, 14], flt := [], elm := [(22, (.own .imm)), (23, (.own .imm)), (24, (.pr (.own .imm) .imm)), (25, (.pr (.own .imm) .imm)), (26, (.own (.own .imm))), (29, (.pr (.pr (.own .imm) .imm) (.pr (.own .imm) .imm))), (30, (.pr (.pr (.own .imm) .imm) (.pr (.own .imm) .imm))), (54, (.pr (.own .imm) .imm)), (55, (.pr (.own .imm) .imm)), (61, (.own .imm))], live := [], ord := [], con := [((34, [.one]), impl_PointsRight.con N), ((46, [.one, .one]), impl_Buf_isPlace.con N)], loops := [], joins := [] }
theorem impl_BufRight.cons (N : Nat) : ConsOk Try.prog (impl_BufRight.cfg N).con := (consOk_cons (hb34) (impl_PointsRight.ok N) (impl_PointsRight.det N) (consOk_cons (hb46) (impl_Buf_isPlace.ok N) (impl_Buf_isPlace.det N) consOk_nil))
theorem impl_BufRight.ls (N : Nat) : LoopsOk Try.prog (impl_BufRight.cfg N) (fnBody Try.f26) := loopsL (l := []) (by kernel_rfl) trivial
theorem impl_BufRight.b (N : Nat) (x0 : den (.pair (.sl 2 (.int .i64)) (.pair (.int .i64) (.pair (.int .i64) .unit)))) : body (impl_BufRight.cfg N) N Try.f26 [.one] [.v] [(false, .imm)] [⟨(.pair (.sl 2 (.int .i64)) (.pair (.int .i64) (.pair (.int .i64) .unit))), .imm, x0⟩] (fun r i => some (r, i)) = bindO (impl_BufRight N x0) fun r => some ([⟨.bool, .imm, r⟩], []) := by
  show _ = bindF _ _
  conv => rhs; simp only [impl_BufRight, bindF_ifB, bindF_bindO, bindF_pure, bindF_none, bindF_onSum]
  kernel_rfl
theorem impl_BufRight.ok (N : Nat) : ConOk Try.prog 26 [.one] (impl_BufRight.con N) := by
  refine conOk_mk (g := impl_BufRight.cfg N) (N := N) (res := [(false, .imm)]) tys_ok (impl_BufRight.cons N) mixed Try.func26 (impl_BufRight.ls N) rfl rfl ?_
  intro ds R k y h
  cases ds with
  | nil => exact none_some h
  | cons d0 ds =>
  cases ds with
  | cons _ _ => exact none_some h
  | nil =>
  have h0 : (castDm (.pair (.sl 2 (.int .i64)) (.pair (.int .i64) (.pair (.int .i64) .unit))) .imm d0 fun x0 => bindO (impl_BufRight N x0) fun r => k [⟨.bool, .imm, r⟩] []) = some y := h
  clear h
  obtain ⟨x0, rfl, h1⟩ := castDm_eq h0
  exact con_fin (impl_BufRight.b N x0) h1
theorem impl_BufRight.det (N : Nat) : ConDet (impl_BufRight.con N) := by
  intro ds R k y h
  cases ds with
  | nil => exact none_some h
  | cons d0 ds =>
  cases ds with
  | cons _ _ => exact none_some h
  | nil =>
  have h0 : (castDm (.pair (.sl 2 (.int .i64)) (.pair (.int .i64) (.pair (.int .i64) .unit))) .imm d0 fun x0 => bindO (impl_BufRight N x0) fun r => k [⟨.bool, .imm, r⟩] []) = some y := h
  clear h
  obtain ⟨x0, rfl, h1⟩ := castDm_eq h0
  obtain ⟨r, e, h⟩ := bindO_some h1
  refine ⟨_, _, h, fun k' => ?_⟩
  show (castDm (.pair (.sl 2 (.int .i64)) (.pair (.int .i64) (.pair (.int .i64) .unit))) .imm (⟨(.pair (.sl 2 (.int .i64)) (.pair (.int .i64) (.pair (.int .i64) .unit))), .imm, x0⟩ : Dy) fun x0 => bindO (impl_BufRight N x0) fun r => k' [⟨.bool, .imm, r⟩] []) = _
  simp only [castDm_self]
  rw [e]
  rfl
noncomputable def impl_ClassOf.con (N : Nat) : Con := { modes := [.v], ptrs := [false], fn := fun ds k => match ds with | [d0] => castDm (.int .i64) .imm d0 fun x0 => bindO (impl_ClassOf N x0) fun r => k [⟨(.int .i64), .imm, r⟩] [] | _ => none }
noncomputable def impl_ClassOf.cfg (N : Nat) : Cfg := { ty := tys, keep := [5, 20, 23, 27], flt := [], elm := [(22, (.own .imm)), (23, (.own .imm)), (24, (.pr (.own .imm) .imm)), (25, (.pr (.own .imm) .imm)), (26, (.own (.own .imm))), (29, (.pr (.pr (.own .imm) .imm) (.pr (.own .imm) .imm))), (30, (.pr (.pr (.own .imm) .imm) (.pr (.own .imm) .imm))), (54, (.pr (.own .imm) .imm)), (55, (.pr (.own .imm) .imm)), (61, (.own .imm))], live := [], ord := [], con := [((60, [.one]), impl_isPoint.con N), ((49, [.one, .one, .one]), impl_within.con N)], loops := [], joins := [] }
theorem impl_ClassOf.cons (N : Nat) : ConsOk Try.prog (impl_ClassOf.cfg N).con := (consOk_cons (hb60) (impl_isPoint.ok N) (impl_isPoint.det N) (consOk_cons (hb49) (impl_within.ok N) (impl_within.det N) consOk_nil))
theorem impl_ClassOf.ls (N : Nat) : LoopsOk Try.prog (impl_ClassOf.cfg N) (fnBody Try.f53) := loopsL (l := []) (by kernel_rfl) trivial
theorem impl_ClassOf.b (N : Nat) (x0 : den (.int .i64)) : body (impl_ClassOf.cfg N) N Try.f53 [.one] [.v] [(false, .imm)] [⟨(.int .i64), .imm, x0⟩] (fun r i => some (r, i)) = bindO (impl_ClassOf N x0) fun r => some ([⟨(.int .i64), .imm, r⟩], []) := by
  show _ = bindF _ _
  conv => rhs; simp only [impl_ClassOf, bindF_ifB, bindF_bindO, bindF_pure, bindF_none, bindF_onSum]
  kernel_rfl
theorem impl_ClassOf.ok (N : Nat) : ConOk Try.prog 53 [.one] (impl_ClassOf.con N) := by
  refine conOk_mk (g := impl_ClassOf.cfg N) (N := N) (res := [(false, .imm)]) tys_ok (impl_ClassOf.cons N) mixed Try.func53 (impl_ClassOf.ls N) rfl rfl ?_
  intro ds R k y h
  cases ds with
  | nil => exact none_some h
  | cons d0 ds =>
  cases ds with
  | cons _ _ => exact none_some h
  | nil =>
  have h0 : (castDm (.int .i64) .imm d0 fun x0 => bindO (impl_ClassOf N x0) fun r => k [⟨(.int .i64), .imm, r⟩] []) = some y := h
  clear h
  obtain ⟨x0, rfl, h1⟩ := castDm_eq h0
  exact con_fin (impl_ClassOf.b N x0) h1
theorem impl_ClassOf.det (N : Nat) : ConDet (impl_ClassOf.con N) := by
  intro ds R k y h
  cases ds with
  | nil => exact none_some h
  | cons d0 ds =>
  cases ds with
  | cons _ _ => exact none_some h
  | nil =>
  have h0 : (castDm (.int .i64) .imm d0 fun x0 => bindO (impl_ClassOf N x0) fun r => k [⟨(.int .i64), .imm, r⟩] []) = some y := h
  clear h
  obtain ⟨x0, rfl, h1⟩ := castDm_eq h0
  obtain ⟨r, e, h⟩ := bindO_some h1
  refine ⟨_, _, h, fun k' => ?_⟩
  show (castDm (.int .i64) .imm (⟨(.int .i64), .imm, x0⟩ : Dy) fun x0 => bindO (impl_ClassOf N x0) fun r => k' [⟨(.int .i64), .imm, r⟩] []) = _
  simp only [castDm_self]
  rw [e]
  rfl
noncomputable def impl_CandsRight_c1_c1.con (N : Nat) : Con := { modes := [.v], ptrs := [false], fn := fun ds k => match ds with | [d0] => castDm (.int .i64) .imm d0 fun x0 => bindO (impl_CandsRight_c1_c1 N x0) fun r => k [⟨.bool, .imm, r⟩] [] | _ => none }
noncomputable def impl_CandsRight_c1_c1.cfg (N : Nat) : Cfg := { ty := tys, keep := [4], flt := [], elm := [(22, (.own .imm)), (23, (.own .imm)), (24, (.pr (.own .imm) .imm)), (25, (.pr (.own .imm) .imm)), (26, (.own (.own .imm))), (29, (.pr (.pr (.own .imm) .imm) (.pr (.own .imm) .imm))), (30, (.pr (.pr (.own .imm) .imm) (.pr (.own .imm) .imm))), (54, (.pr (.own .imm) .imm)), (55, (.pr (.own .imm) .imm)), (61, (.own .imm))], live := [], ord := [], con := [((53, [.one]), impl_ClassOf.con N)], loops := [], joins := [] }
theorem impl_CandsRight_c1_c1.cons (N : Nat) : ConsOk Try.prog (impl_CandsRight_c1_c1.cfg N).con := (consOk_cons (hb53) (impl_ClassOf.ok N) (impl_ClassOf.det N) consOk_nil)
theorem impl_CandsRight_c1_c1.ls (N : Nat) : LoopsOk Try.prog (impl_CandsRight_c1_c1.cfg N) (fnBody Try.f52) := loopsL (l := []) (by kernel_rfl) trivial
theorem impl_CandsRight_c1_c1.b (N : Nat) (x0 : den (.int .i64)) : body (impl_CandsRight_c1_c1.cfg N) N Try.f52 [.one] [.v] [(false, .imm)] [⟨(.int .i64), .imm, x0⟩] (fun r i => some (r, i)) = bindO (impl_CandsRight_c1_c1 N x0) fun r => some ([⟨.bool, .imm, r⟩], []) := by
  show _ = bindF _ _
  conv => rhs; simp only [impl_CandsRight_c1_c1, bindF_ifB, bindF_bindO, bindF_pure, bindF_none, bindF_onSum]
  kernel_rfl
theorem impl_CandsRight_c1_c1.ok (N : Nat) : ConOk Try.prog 52 [.one] (impl_CandsRight_c1_c1.con N) := by
  refine conOk_mk (g := impl_CandsRight_c1_c1.cfg N) (N := N) (res := [(false, .imm)]) tys_ok (impl_CandsRight_c1_c1.cons N) mixed Try.func52 (impl_CandsRight_c1_c1.ls N) rfl rfl ?_
  intro ds R k y h
  cases ds with
  | nil => exact none_some h
  | cons d0 ds =>
  cases ds with
  | cons _ _ => exact none_some h
  | nil =>
  have h0 : (castDm (.int .i64) .imm d0 fun x0 => bindO (impl_CandsRight_c1_c1 N x0) fun r => k [⟨.bool, .imm, r⟩] []) = some y := h
  clear h
  obtain ⟨x0, rfl, h1⟩ := castDm_eq h0
  exact con_fin (impl_CandsRight_c1_c1.b N x0) h1
theorem impl_CandsRight_c1_c1.det (N : Nat) : ConDet (impl_CandsRight_c1_c1.con N) := by
  intro ds R k y h
  cases ds with
  | nil => exact none_some h
  | cons d0 ds =>
  cases ds with
  | cons _ _ => exact none_some h
  | nil =>
  have h0 : (castDm (.int .i64) .imm d0 fun x0 => bindO (impl_CandsRight_c1_c1 N x0) fun r => k [⟨.bool, .imm, r⟩] []) = some y := h
  clear h
  obtain ⟨x0, rfl, h1⟩ := castDm_eq h0
  obtain ⟨r, e, h⟩ := bindO_some h1
  refine ⟨_, _, h, fun k' => ?_⟩
  show (castDm (.int .i64) .imm (⟨(.int .i64), .imm, x0⟩ : Dy) fun x0 => bindO (impl_CandsRight_c1_c1 N x0) fun r => k' [⟨.bool, .imm, r⟩] []) = _
  simp only [castDm_self]
  rw [e]
  rfl
def slices_IndexFunc_Sint64_int64__impl_CandsRight_c1_c1.sk2 : Skel := ⟨[.pv (.sl 2 (.int .i64)), .fn 52 [], .dead, .dead, .dead, .dead, .dead, .pv (.int .i64), .pv (.int .i64), .dead, .dead, .dead, .dead, .dead, .dead, .dead, .dead, .dead, .dead], []⟩
def slices_IndexFunc_Sint64_int64__impl_CandsRight_c1_c1.xs2 : List XS := [⟨.exit 0, [], ⟨[.dead, .dead, .dead, .dead, .dead, .dead, .dead, .dead, .dead, .dead, .dead, .dead, .dead, .dead, .dead, .dead, .dead, .dead, .dead], []⟩⟩, ⟨.ret, [4], ⟨[.dead, .dead, .dead, .dead, .pv (.int .i64), .dead, .dead, .dead, .dead, .dead, .dead, .dead, .dead, .dead, .dead, .dead, .dead, .dead, .dead], []⟩⟩]
noncomputable def slices_IndexFunc_Sint64_int64__impl_CandsRight_c1_c1.con (N : Nat) : Con := { modes := [.v], ptrs := [false], fn := fun ds k => match ds with | [d0] => castDm (.sl 2 (.int .i64)) .imm d0 fun x0 => bindO (slices_IndexFunc_Sint64_int64__impl_CandsRight_c1_c1 N x0) fun r => k [⟨(.int .i64), .imm, r⟩] [] | _ => none }
noncomputable def slices_IndexFunc_Sint64_int64__impl_CandsRight_c1_c1.cfg (N : Nat) : Cfg := { ty := tys, keep := [16], flt := [], elm := [(22, (.own .imm)), (23, (.own .imm)), (24, (.pr (.own .imm) .imm)), (25, (.pr (.own .imm) .imm)), (26, (.own (.own .imm))), (29, (.pr (.pr (.own .imm) .imm) (.pr (.own .imm) .imm))), (30, (.pr (.pr (.own .imm) .imm) (.pr (.own .imm) .imm))), (54, (.pr (.own .imm) .imm)), (55, (.pr (.own .imm) .imm)), (61, (.own .imm))], live := [(2, [0, 1, 7, 8])], ord := [], con := [((52, [.one]), impl_CandsRight_c1_c1.con N)], loops := [(2, loopCon N slices_IndexFunc_Sint64_int64__impl_CandsRight_c1_c1.sk2 slices_IndexFunc_Sint64_int64__impl_CandsRight_c1_c1.xs2 (fun {R} => slices_IndexFunc_Sint64_int64__impl_CandsRight_c1_c1.l2 (R := R) N))], joins := [] }
theorem slices_IndexFunc_Sint64_int64__impl_CandsRight_c1_c1.cons (N : Nat) : ConsOk Try.prog (slices_IndexFunc_Sint64_int64__impl_CandsRight_c1_c1.cfg N).con := (consOk_cons (hb52) (impl_CandsRight_c1_c1.ok N) (impl_CandsRight_c1_c1.det N) consOk_nil)
theorem slices_IndexFunc_Sint64_int64__impl_CandsRight_c1_c1.h2 {R : Type} (N : Nat) (d : slices_IndexFunc_Sint64_int64__impl_CandsRight_c1_c1.sk2.D) (kn : slices_IndexFunc_Sint64_int64__impl_CandsRight_c1_c1.sk2.D → Option R) (kx : XD slices_IndexFunc_Sint64_int64__impl_CandsRight_c1_c1.xs2 → Option R) : roundK (slices_IndexFunc_Sint64_int64__impl_CandsRight_c1_c1.cfg N) N (nthLoop (fnBody Try.f67) 0) slices_IndexFunc_Sint64_int64__impl_CandsRight_c1_c1.sk2 slices_IndexFunc_Sint64_int64__impl_CandsRight_c1_c1.xs2 d kn kx = slices_IndexFunc_Sint64_int64__impl_CandsRight_c1_c1.l2 N d kn kx := by kernel_rfl
theorem slices_IndexFunc_Sint64_int64__impl_CandsRight_c1_c1.i2 (N : Nat) : LoopsOk Try.prog (slices_IndexFunc_Sint64_int64__impl_CandsRight_c1_c1.cfg N) (nthLoop (fnBody Try.f67) 0) := loopsL (l := []) (by kernel_rfl) trivial
theorem slices_IndexFunc_Sint64_int64__impl_CandsRight_c1_c1.o2 (N : Nat) : LoopOk Try.prog (nthLoop (fnBody Try.f67) 0) (loopCon N slices_IndexFunc_Sint64_int64__impl_CandsRight_c1_c1.sk2 slices_IndexFunc_Sint64_int64__impl_CandsRight_c1_c1.xs2 (fun {R} => slices_IndexFunc_Sint64_int64__impl_CandsRight_c1_c1.l2 (R := R) N)) := loop_ok (g := slices_IndexFunc_Sint64_int64__impl_CandsRight_c1_c1.cfg N) tys_ok (slices_IndexFunc_Sint64_int64__impl_CandsRight_c1_c1.cons N) mixed (slices_IndexFunc_Sint64_int64__impl_CandsRight_c1_c1.i2 N) (fun d kn kx => slices_IndexFunc_Sint64_int64__impl_CandsRight_c1_c1.h2 N d kn kx)
theorem slices_IndexFunc_Sint64_int64__impl_CandsRight_c1_c1.ls (N : Nat) : LoopsOk Try.prog (slices_IndexFunc_Sint64_int64__impl_CandsRight_c1_c1.cfg N) (fnBody Try.f67) := loopsL (l := [nthLoop (fnBody Try.f67) 0]) (by kernel_rfl) ⟨loopOne (L0 := loopCon N slices_IndexFunc_Sint64_int64__impl_CandsRight_c1_c1.sk2 slices_IndexFunc_Sint64_int64__impl_CandsRight_c1_c1.xs2 (fun {R} => slices_IndexFunc_Sint64_int64__impl_CandsRight_c1_c1.l2 (R := R) N)) (id := 2) (by kernel_rfl) (by kernel_rfl) (slices_IndexFunc_Sint64_int64__impl_CandsRight_c1_c1.o2 N), trivial⟩
theorem slices_IndexFunc_Sint64_int64__impl_CandsRight_c1_c1.q2 {R R' : Type} {N n : Nat} {d} {k} {g : R → Option R'} : bindF (loopP (slices_IndexFunc_Sint64_int64__impl_CandsRight_c1_c1.l2 N) n d k) g = loopP (slices_IndexFunc_Sint64_int64__impl_CandsRight_c1_c1.l2 N) n d fun e => bindF (k e) g := bindF_loopP (fun d kn kx => by simp only [slices_IndexFunc_Sint64_int64__impl_CandsRight_c1_c1.l2, bindF_ifB, bindF_bindO, bindF_pure, bindF_none, bindF_onSum]) n d k
theorem slices_IndexFunc_Sint64_int64__impl_CandsRight_c1_c1.b (N : Nat) (x0 : den (.sl 2 (.int .i64))) : body (slices_IndexFunc_Sint64_int64__impl_CandsRight_c1_c1.cfg N) N Try.f67 [.one, .fn 52 0] [.v] [(false, .imm)] [⟨(.sl 2 (.int .i64)), .imm, x0⟩] (fun r i => some (r, i)) = bindO (slices_IndexFunc_Sint64_int64__impl_CandsRight_c1_c1 N x0) fun r => some ([⟨(.int .i64), .imm, r⟩], []) := by
  show _ = bindF _ _
  conv => rhs; simp only [slices_IndexFunc_Sint64_int64__impl_CandsRight_c1_c1, bindF_ifB, bindF_bindO, bindF_pure, bindF_none, bindF_onSum, slices_IndexFunc_Sint64_int64__impl_CandsRight_c1_c1.q2]
  kernel_rfl
theorem slices_IndexFunc_Sint64_int64__impl_CandsRight_c1_c1.ok (N : Nat) : ConOk Try.prog 67 [.one, .fn 52 0] (slices_IndexFunc_Sint64_int64__impl_CandsRight_c1_c1.con N) := by
  refine conOk_mk (g := slices_IndexFunc_Sint64_int64__impl_CandsRight_c1_c1.cfg N) (N := N) (res := [(false, .imm)]) tys_ok (slices_IndexFunc_Sint64_int64__impl_CandsRight_c1_c1.cons N) mixed Try.func67 (slices_IndexFunc_Sint64_int64__impl_CandsRight_c1_c1.ls N) rfl rfl ?_
  intro ds R k y h
  cases ds with
  | nil => exact none_some h
  | cons d0 ds =>
  cases ds with
  | cons _ _ => exact none_some h
  | nil =>
  have h0 : (castDm (.sl 2 (.int .i64)) .imm d0 fun x0 => bindO (slices_IndexFunc_Sint64_int64__impl_CandsRight_c1_c1 N x0) fun r => k [⟨(.int .i64), .imm, r⟩] []) = some y := h
  clear h
  obtain ⟨x0, rfl, h1⟩ := castDm_eq h0
  exact con_fin (slices_IndexFunc_Sint64_int64__impl_CandsRight_c1_c1.b N x0) h1
theorem slices_IndexFunc_Sint64_int64__impl_CandsRight_c1_c1.det (N : Nat) : ConDet (slices_IndexFunc_Sint64_int64__impl_CandsRight_c1_c1.con N) := by
  intro ds R k y h
  cases ds with
  | nil => exact none_some h
  | cons d0 ds =>
  cases ds with
  | cons _ _ => exact none_some h
  | nil =>
  have h0 : (castDm (.sl 2 (.int .i64)) .imm d0 fun x0 => bindO (slices_IndexFunc_Sint64_int64__impl_CandsRight_c1_c1 N x0) fun r => k [⟨(.int .i64), .imm, r⟩] []) = some y := h
  clear h
  obtain ⟨x0, rfl, h1⟩ := castDm_eq h0
  obtain ⟨r, e, h⟩ := bindO_some h1
  refine ⟨_, _, h, fun k' => ?_⟩
  show (castDm (.sl 2 (.int .i64)) .imm (⟨(.sl 2 (.int .i64)), .imm, x0⟩ : Dy) fun x0 => bindO (slices_IndexFunc_Sint64_int64__impl_CandsRight_c1_c1 N x0) fun r => k' [⟨(.int .i64), .imm, r⟩] []) = _
  simp only [castDm_self]
  rw [e]
  rfl
noncomputable def slices_ContainsFunc_Sint64_int64__impl_CandsRight_c1_c1.con (N : Nat) : Con := { modes := [.v], ptrs := [false], fn := fun ds k => match ds with | [d0] => castDm (.sl 2 (.int .i64)) .imm d0 fun x0 => bindO (slices_ContainsFunc_Sint64_int64__impl_CandsRight_c1_c1 N x0) fun r => k [⟨.bool, .imm, r⟩] [] | _ => none }
noncomputable def slices_ContainsFunc_Sint64_int64__impl_CandsRight_c1_c1.cfg (N : Nat) : Cfg := { ty := tys, keep := [7], flt := [], elm := [(22, (.own .imm)), (23, (.own .imm)), (24, (.pr (.own .imm) .imm)), (25, (.pr (.own .imm) .imm)), (26, (.own (.own .imm))), (29, (.pr (.pr (.own .imm) .imm) (.pr (.own .imm) .imm))), (30, (.pr (.pr (.own .imm) .imm) (.pr (.own .imm) .imm))), (54, (.pr (.own .imm) .imm)), (55, (.pr (.own .imm) .imm)), (61, (.own .imm))], live := [], ord := [], con := [((67, [.one, .fn 52 0]), slices_IndexFunc_Sint64_int64__impl_CandsRight_c1_c1.con N)], loops := [], joins := [] }
theorem slices_ContainsFunc_Sint64_int64__impl_CandsRight_c1_c1.cons (N : Nat) : ConsOk Try.prog (slices_ContainsFunc_Sint64_int64__impl_CandsRight_c1_c1.cfg N).con := (consOk_cons (hb67) (slices_IndexFunc_Sint64_int64__impl_CandsRight_c1_c1.ok N) (slices_IndexFunc_Sint64_int64__impl_CandsRight_c1_c1.det N) consOk_nil)
theorem slices_ContainsFunc_Sint64_int64__impl_CandsRight_c1_c1.ls (N : Nat) : LoopsOk Try.prog (slices_ContainsFunc_Sint64_int64__impl_CandsRight_c1_c1.cfg N) (fnBody Try.f51) := loopsL (l := []) (by kernel_rfl) trivial
theorem slices_ContainsFunc_Sint64_int64__impl_CandsRight_c1_c1.b (N : Nat) (x0 : den (.sl 2 (.int .i64))) : body (slices_ContainsFunc_Sint64_int64__impl_CandsRight_c1_c1.cfg N) N Try.f51 [.one, .fn 52 0] [.v] [(false, .imm)] [⟨(.sl 2 (.int .i64)), .imm, x0⟩] (fun r i => some (r, i)) = bindO (slices_ContainsFunc_Sint64_int64__impl_CandsRight_c1_c1 N x0) fun r => some ([⟨.bool, .imm, r⟩], []) := by
  show _ = bindF _ _
  conv => rhs; simp only [slices_ContainsFunc_Sint64_int64__impl_CandsRight_c1_c1, bindF_ifB, bindF_bindO, bindF_pure, bindF_none, bindF_onSum]
  kernel_rfl
theorem slices_ContainsFunc_Sint64_int64__impl_CandsRight_c1_c1.ok (N : Nat) : ConOk Try.prog 51 [.one, .fn 52 0] (slices_ContainsFunc_Sint64_int64__impl_CandsRight_c1_c1.con N) := by
  refine conOk_mk (g := slices_ContainsFunc_Sint64_int64__impl_CandsRight_c1_c1.cfg N) (N := N) (res := [(false, .imm)]) tys_ok (slices_ContainsFunc_Sint64_int64__impl_CandsRight_c1_c1.cons N) mixed Try.func51 (slices_ContainsFunc_Sint64_int64__impl_CandsRight_c1_c1.ls N) rfl rfl ?_
  intro ds R k y h
  cases ds with
  | nil => exact none_some h
  | cons d0 ds =>
  cases ds with
  | cons _ _ => exact none_some h
  | nil =>
  have h0 : (castDm (.sl 2 (.int .i64)) .imm d0 fun x0 => bindO (slices_ContainsFunc_Sint64_int64__impl_CandsRight_c1_c1 N x0) fun r => k [⟨.bool, .imm, r⟩] []) = some y := h
  clear h
  obtain ⟨x0, rfl, h1⟩ := castDm_eq h0
  exact con_fin (slices_ContainsFunc_Sint64_int64__impl_CandsRight_c1_c1.b N x0) h1
theorem slices_ContainsFunc_Sint64_int64__impl_CandsRight_c1_c1.det (N : Nat) : ConDet (slices_ContainsFunc_Sint64_int64__impl_CandsRight_c1_c1.con N) := by
  intro ds R k y h
  cases ds with
  | nil => exact none_some h
  | cons d0 ds =>
  cases ds with
  | cons _ _ => exact none_some h
  | nil =>
  have h0 : (castDm (.sl 2 (.int .i64)) .imm d0 fun x0 => bindO (slices_ContainsFunc_Sint64_int64__impl_CandsRight_c1_c1 N x0) fun r => k [⟨.bool, .imm, r⟩] []) = some y := h
  clear h
  obtain ⟨x0, rfl, h1⟩ := castDm_eq h0
  obtain ⟨r, e, h⟩ := bindO_some h1
  refine ⟨_, _, h, fun k' => ?_⟩
  show (castDm (.sl 2 (.int .i64)) .imm (⟨(.sl 2 (.int .i64)), .imm, x0⟩ : Dy) fun x0 => bindO (slices_ContainsFunc_Sint64_int64__impl_CandsRight_c1_c1 N x0) fun r => k' [⟨.bool, .imm, r⟩] []) = _
  simp only [castDm_self]
  rw [e]
  rfl
noncomputable def impl_CandsRight_c1.con (N : Nat) : Con := { modes := [.v], ptrs := [false], fn := fun ds k => match ds with | [d0] => castDm (.sl 2 (.int .i64)) .imm d0 fun x0 => bindO (impl_CandsRight_c1 N x0) fun r => k [⟨.bool, .imm, r⟩] [] | _ => none }
noncomputable def impl_CandsRight_c1.cfg (N : Nat) : Cfg := { ty := tys, keep := [4, 5, 9], flt := [], elm := [(22, (.own .imm)), (23, (.own .imm)), (24, (.pr (.own .imm) .imm)), (25, (.pr (.own .imm) .imm)), (26, (.own (.own .imm))), (29, (.pr (.pr (.own .imm) .imm) (.pr (.own .imm) .imm))), (30, (.pr (.pr (.own .imm) .imm) (.pr (.own .imm) .imm))), (54, (.pr (.own .imm) .imm)), (55, (.pr (.own .imm) .imm)), (61, (.own .imm))], live := [], ord := [], con := [((50, [.one]), impl_size_Sint64.con N), ((49, [.one, .one, .one]), impl_within.con N), ((51, [.one, .fn 52 0]), slices_ContainsFunc_Sint64_int64__impl_CandsRight_c1_c1.con N)], loops := [], joins := [] }
theorem impl_CandsRight_c1.cons (N : Nat) : ConsOk Try.prog (impl_CandsRight_c1.cfg N).con := (consOk_cons (hb50) (impl_size_Sint64.ok N) (impl_size_Sint64.det N) (consOk_cons (hb49) (impl_within.ok N) (impl_within.det N) (consOk_cons (hb51) (slices_ContainsFunc_Sint64_int64__impl_CandsRight_c1_c1.ok N) (slices_ContainsFunc_Sint64_int64__impl_CandsRight_c1_c1.det N) consOk_nil)))
theorem impl_CandsRight_c1.ls (N : Nat) : LoopsOk Try.prog (impl_CandsRight_c1.cfg N) (fnBody Try.f48) := loopsL (l := []) (by kernel_rfl) trivial
theorem impl_CandsRight_c1.b (N : Nat) (x0 : den (.sl 2 (.int .i64))) : body (impl_CandsRight_c1.cfg N) N Try.f48 [.one] [.v] [(false, .imm)] [⟨(.sl 2 (.int .i64)), .imm, x0⟩] (fun r i => some (r, i)) = bindO (impl_CandsRight_c1 N x0) fun r => some ([⟨.bool, .imm, r⟩], []) := by
  show _ = bindF _ _
  conv => rhs; simp only [impl_CandsRight_c1, bindF_ifB, bindF_bindO, bindF_pure, bindF_none, bindF_onSum]
  kernel_rfl
theorem impl_CandsRight_c1.ok (N : Nat) : ConOk Try.prog 48 [.one] (impl_CandsRight_c1.con N) := by
  refine conOk_mk (g := impl_CandsRight_c1.cfg N) (N := N) (res := [(false, .imm)]) tys_ok (impl_CandsRight_c1.cons N) mixed Try.func48 (impl_CandsRight_c1.ls N) rfl rfl ?_
  intro ds R k y h
  cases ds with
  | nil => exact none_some h
  | cons d0 ds =>
  cases ds with
  | cons _ _ => exact none_some h
  | nil =>
  have h0 : (castDm (.sl 2 (.int .i64)) .imm d0 fun x0 => bindO (impl_CandsRight_c1 N x0) fun r => k [⟨.bool, .imm, r⟩] []) = some y := h
  clear h
  obtain ⟨x0, rfl, h1⟩ := castDm_eq h0
  exact con_fin (impl_CandsRight_c1.b N x0) h1
theorem impl_CandsRight_c1.det (N : Nat) : ConDet (impl_CandsRight_c1.con N) := by
  intro ds R k y h
  cases ds with
  | nil => exact none_some h
  | cons d0 ds =>
  cases ds with
  | cons _ _ => exact none_some h
  | nil =>
  have h0 : (castDm (.sl 2 (.int .i64)) .imm d0 fun x0 => bindO (impl_CandsRight_c1 N x0) fun r => k [⟨.bool, .imm, r⟩] []) = some y := h
  clear h
  obtain ⟨x0, rfl, h1⟩ := castDm_eq h0
  obtain ⟨r, e, h⟩ := bindO_some h1
  refine ⟨_, _, h, fun k' => ?_⟩
  show (castDm (.sl 2 (.int .i64)) .imm (⟨(.sl 2 (.int .i64)), .imm, x0⟩ : Dy) fun x0 => bindO (impl_CandsRight_c1 N x0) fun r => k' [⟨.bool, .imm, r⟩] []) = _
  simp only [castDm_self]
  rw [e]
  rfl
def slices_IndexFunc_S_Sint64__Sint64__impl_CandsRight_c1.sk2 : Skel := ⟨[.pv (.sl 23 (.sl 2 (.int .i64))), .fn 48 [], .dead, .dead, .dead, .dead, .dead, .pv (.int .i64), .pv (.int .i64), .dead, .dead, .dead, .dead, .dead, .dead, .dead, .dead, .dead, .dead], []⟩
def slices_IndexFunc_S_Sint64__Sint64__impl_CandsRight_c1.xs2 : List XS := [⟨.exit 0, [], ⟨[.dead, .dead, .dead, .dead, .dead, .dead, .dead, .dead, .dead, .dead, .dead, .dead, .dead, .dead, .dead, .dead, .dead, .dead, .dead], []⟩⟩, ⟨.ret, [4], ⟨[.dead, .dead, .dead, .dead, .pv (.int .i64), .dead, .dead, .dead, .dead, .dead, .dead, .dead, .dead, .dead, .dead, .dead, .dead, .dead, .dead], []⟩⟩]
noncomputable def slices_IndexFunc_S_Sint64__Sint64__impl_CandsRight_c1.con (N : Nat) : Con := { modes := [.v], ptrs := [false], fn := fun ds k => match ds with | [d0] => castDm (.sl 23 (.sl 2 (.int .i64))) .imm d0 fun x0 => bindO (slices_IndexFunc_S_Sint64__Sint64__impl_CandsRight_c1 N x0) fun r => k [⟨(.int .i64), .imm, r⟩] [] | _ => none }
noncomputable def slices_IndexFunc_S_Sint64__Sint64__impl_CandsRight_c1.cfg (N : Nat) : Cfg := { ty := tys, keep := [16], flt := [], elm := [(22, (.own .imm)), (23, (.own .imm)), (24, (.pr (.own .imm) .imm)), (25, (.pr (.own .imm) .imm)), (26, (.own (.own .imm))), (29, (.pr (.pr (.own .imm) .imm) (.pr (.own .imm) .imm))), (30, (.pr (.pr (.own .imm) .imm) (.pr (.own .imm) .imm))), (54, (.pr (.own .imm) .imm)), (55, (.pr (.own .imm) .imm)), (61, (.own .imm))], live := [(2, [0, 1, 7, 8])], ord := [], con := [((48, [.one]), impl_CandsRight_c1.con N)], loops := [(2, loopCon N slices_IndexFunc_S_Sint64__Sint64__impl_CandsRight_c1.sk2 slices_IndexFunc_S_Sint64__Sint64__impl_CandsRight_c1.xs2 (fun {R} => slices_IndexFunc_S_Sint64__Sint64__impl_CandsRight_c1.l2 (R := R) N))], joins := [] }
theorem slices_IndexFunc_S_Sint64__Sint64__impl_CandsRight_c1.cons (N : Nat) : ConsOk Try.prog (slices_IndexFunc_S_Sint64__Sint64__impl_CandsRight_c1.cfg N).con := (consOk_cons (hb48) (impl_CandsRight_c1.ok N) (impl_CandsRight_c1.det N) consOk_nil)
theorem slices_IndexFunc_S_Sint64__Sint64__impl_CandsRight_c1.h2 {R : Type} (N : Nat) (d : slices_IndexFunc_S_Sint64__Sint64__impl_CandsRight_c1.sk2.D) (kn : slices_IndexFunc_S_Sint64__Sint64__impl_CandsRight_c1.sk2.D → Option R) (kx : XD slices_IndexFunc_S_Sint64__Sint64__impl_CandsRight_c1.xs2 → Option R) : roundK (slices_IndexFunc_S_Sint64__Sint64__impl_CandsRight_c1.cfg N) N (nthLoop (fnBody Try.f66) 0) slices_IndexFunc_S_Sint64__Sint64__impl_CandsRight_c1.sk2 slices_IndexFunc_S_Sint64__Sint64__impl_CandsRight_c1.xs2 d kn kx = slices_IndexFunc_S_Sint64__Sint64__impl_CandsRight_c1.l2 N d kn kx := by kernel_rfl
theorem slices_IndexFunc_S_Sint64__Sint64__impl_CandsRight_c1.i2 (N : Nat) : LoopsOk Try.prog (slices_IndexFunc_S_Sint64__Sint64__impl_CandsRight_c1.cfg N) (nthLoop (fnBody Try.f66) 0) := loopsL (l := []) (by kernel_rfl) trivial
theorem slices_IndexFunc_S_Sint64__Sint64__impl_CandsRight_c1.o2 (N : Nat) : LoopOk Try.prog (nthLoop (fnBody Try.f66) 0) (loopCon N slices_IndexFunc_S_Sint64__Sint64__impl_CandsRight_c1.sk2 slices_IndexFunc_S_Sint64__Sint64__impl_CandsRight_c1.xs2 (fun {R} => slices_IndexFunc_S_Sint64__Sint64__impl_CandsRight_c1.l2 (R := R) N)) := loop_ok (g := slices_IndexFunc_S_Sint64__Sint64__impl_CandsRight_c1.cfg N) tys_ok (slices_IndexFunc_S_Sint64__Sint64__impl_CandsRight_c1.cons N) mixed (slices_IndexFunc_S_Sint64__Sint64__impl_CandsRight_c1.i2 N) (fun d kn kx => slices_IndexFunc_S_Sint64__Sint64__impl_CandsRight_c1.h2 N d kn kx)
theorem slices_IndexFunc_S_Sint64__Sint64__impl_CandsRight_c1.ls (N : Nat) : LoopsOk Try.prog (slices_IndexFunc_S_Sint64__Sint64__impl_CandsRight_c1.cfg N) (fnBody Try.f66) := loopsL (l := [nthLoop (fnBody Try.f66) 0]) (by kernel_rfl) ⟨loopOne (L0 := loopCon N slices_IndexFunc_S_Sint64__Sint64__impl_CandsRight_c1.sk2 slices_IndexFunc_S_Sint64__Sint64__impl_CandsRight_c1.xs2 (fun {R} => slices_IndexFunc_S_Sint64__Sint64__impl_CandsRight_c1.l2 (R := R) N)) (id := 2) (by kernel_rfl) (by kernel_rfl) (slices_IndexFunc_S_Sint64__Sint64__impl_CandsRight_c1.o2 N), trivial⟩
theorem slices_IndexFunc_S_Sint64__Sint64__impl_CandsRight_c1.q2 {R R' : Type} {N n : Nat} {d} {k} {g : R → Option R'} : bindF (loopP (slices_IndexFunc_S_Sint64__Sint64__impl_CandsRight_c1.l2 N) n d k) g = loopP (slices_IndexFunc_S_Sint64__Sint64__impl_CandsRight_c1.l2 N) n d fun e => bindF (k e) g := bindF_loopP (fun d kn kx => by simp only [slices_IndexFunc_S_Sint64__Sint64__impl_CandsRight_c1.l2, bindF_ifB, bindF_bindO, bindF_pure, bindF_none, bindF_onSum]) n d k
theorem slices_IndexFunc_S_Sint64__Sint64__impl_CandsRight_c1.b (N : Nat) (x0 : den (.sl 23 (.sl 2 (.int .i64)))) : body (slices_IndexFunc_S_Sint64__Sint64__impl_CandsRight_c1.cfg N) N Try.f66 [.one, .fn 48 0] [.v] [(false, .imm)] [⟨(.sl 23 (.sl 2 (.int .i64))), .imm, x0⟩] (fun r i => some (r, i)) = bindO (slices_IndexFunc_S_Sint64__Sint64__impl_CandsRight_c1 N x0) fun r => some ([⟨(.int .i64), .imm, r⟩], []) := by
  show _ = bindF _ _
  conv => rhs; simp only [slices_IndexFunc_S_Sint64__Sint64__impl_CandsRight_c1, bindF_ifB, bindF_bindO, bindF_pure, bindF_none, bindF_onSum, slices_IndexFunc_S_Sint64__Sint64__impl_CandsRight_c1.q2]
  kernel_rfl
theorem slices_IndexFunc_S_Sint64__Sint64__impl_CandsRight_c1.ok (N : Nat) : ConOk Try.prog 66 [.one, .fn 48 0] (slices_IndexFunc_S_Sint64__Sint64__impl_CandsRight_c1.con N) := by
  refine conOk_mk (g := slices_IndexFunc_S_Sint64__Sint64__impl_CandsRight_c1.cfg N) (N := N) (res := [(false, .imm)]) tys_ok (slices_IndexFunc_S_Sint64__Sint64__impl_CandsRight_c1.cons N) mixed Try.func66 (slices_IndexFunc_S_Sint64__Sint64__impl_CandsRight_c1.ls N) rfl rfl ?_
  intro ds R k y h
  cases ds with
  | nil => exact none_some h
  | cons d0 ds =>
  cases ds with
  | cons _ _ => exact none_some h
  | nil =>
  have h0 : (castDm (.sl 23 (.sl 2 (.int .i64))) .imm d0 fun x0 => bindO (slices_IndexFunc_S_Sint64__Sint64__impl_CandsRight_c1 N x0) fun r => k [⟨(.int .i64), .imm, r⟩] []) = some y := h
  clear h
  obtain ⟨x0, rfl, h1⟩ := castDm_eq h0
  exact con_fin (slices_IndexFunc_S_Sint64__Sint64__impl_CandsRight_c1.b N x0) h1
theorem slices_IndexFunc_S_Sint64__Sint64__impl_CandsRight_c1.det (N : Nat) : ConDet (slices_IndexFunc_S_Sint64__Sint64__impl_CandsRight_c1.con N) := by
  intro ds R k y h
  cases ds with
  | nil => exact none_some h
  | cons d0 ds =>
  cases ds with
  | cons _ _ => exact none_some h
  | nil =>
  have h0 : (castDm (.sl 23 (.sl 2 (.int .i64))) .imm d0 fun x0 => bindO (slices_IndexFunc_S_Sint64__Sint64__impl_CandsRight_c1 N x0) fun r => k [⟨(.int .i64), .imm, r⟩] []) = some y := h
  clear h
  obtain ⟨x0, rfl, h1⟩ := castDm_eq h0
  obtain ⟨r, e, h⟩ := bindO_some h1
  refine ⟨_, _, h, fun k' => ?_⟩
  show (castDm (.sl 23 (.sl 2 (.int .i64))) .imm (⟨(.sl 23 (.sl 2 (.int .i64))), .imm, x0⟩ : Dy) fun x0 => bindO (slices_IndexFunc_S_Sint64__Sint64__impl_CandsRight_c1 N x0) fun r => k' [⟨(.int .i64), .imm, r⟩] []) = _
  simp only [castDm_self]
  rw [e]
  rfl
end Go.AE.F
