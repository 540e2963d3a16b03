/- The printed functions are what the program comes to: contracts. -/
import Derived.Test.YtnojkkgeefhpaaaLMotionsL1
namespace Go.AE.F
open Go.AE Go.Proofs
set_option maxRecDepth 100000
noncomputable def impl_PointsRight_c1.con (N : Nat) : Con := { modes := [.v], ptrs := [false], fn := fun ds k => match ds with | [d0] => castDm (.int .i64) .imm d0 fun x0 => bindO (impl_PointsRight_c1 N x0) fun r => k [⟨.bool, .imm, r⟩] [] | _ => none }
noncomputable def impl_PointsRight_c1.cfg (N : Nat) : Cfg := { ty := tys, keep := [4], flt := [], elm := [(22, (.own .imm)), (23, (.own .imm)), (24, (.pr (.own .imm) .imm)), (25, (.pr (.own .imm) .imm)), (54, (.pr (.own .imm) .imm)), (55, (.pr (.own .imm) .imm))], live := [], ord := [], con := [((40, [.one]), impl_isPoint.con N)], loops := [], joins := [] }
theorem impl_PointsRight_c1.cons (N : Nat) : ConsOk Try.prog (impl_PointsRight_c1.cfg N).con := (consOk_cons (hb40) (impl_isPoint.ok N) (impl_isPoint.det N) consOk_nil)
theorem impl_PointsRight_c1.ls (N : Nat) : LoopsOk Try.prog (impl_PointsRight_c1.cfg N) (fnBody Try.f39) := loopsL (l := []) (by kernel_rfl) trivial
theorem impl_PointsRight_c1.b (N : Nat) (x0 : den (.int .i64)) : body (impl_PointsRight_c1.cfg N) N Try.f39 [.one] [.v] [(false, .imm)] [⟨(.int .i64), .imm, x0⟩] (fun r i => some (r, i)) = bindO (impl_PointsRight_c1 N x0) fun r => some ([⟨.bool, .imm, r⟩], []) := by
  show _ = bindF _ _
  conv => rhs; simp only [impl_PointsRight_c1, bindF_ifB, bindF_bindO, bindF_pure, bindF_none, bindF_onSum]
  kernel_rfl
theorem impl_PointsRight_c1.ok (N : Nat) : ConOk Try.prog 39 [.one] (impl_PointsRight_c1.con N) := by
  refine conOk_mk (g := impl_PointsRight_c1.cfg N) (N := N) (res := [(false, .imm)]) tys_ok (impl_PointsRight_c1.cons N) mixed Try.func39 (impl_PointsRight_c1.ls N) rfl rfl ?_
  intro ds R k y h
  cases ds with
  | nil => exact none_some h
  | cons d0 ds =>
  cases ds with
  | cons _ _ => exact none_some h
  | nil =>
  have h0 : (castDm (.int .i64) .imm d0 fun x0 => bindO (impl_PointsRight_c1 N x0) fun r => k [⟨.bool, .imm, r⟩] []) = some y := h
  clear h
  obtain ⟨x0, rfl, h1⟩ := castDm_eq h0
  exact con_fin (impl_PointsRight_c1.b N x0) h1
theorem impl_PointsRight_c1.det (N : Nat) : ConDet (impl_PointsRight_c1.con N) := by
  intro ds R k y h
  cases ds with
  | nil => exact none_some h
  | cons d0 ds =>
  cases ds with
  | cons _ _ => exact none_some h
  | nil =>
  have h0 : (castDm (.int .i64) .imm d0 fun x0 => bindO (impl_PointsRight_c1 N x0) fun r => k [⟨.bool, .imm, r⟩] []) = some y := h
  clear h
  obtain ⟨x0, rfl, h1⟩ := castDm_eq h0
  obtain ⟨r, e, h⟩ := bindO_some h1
  refine ⟨_, _, h, fun k' => ?_⟩
  show (castDm (.int .i64) .imm (⟨(.int .i64), .imm, x0⟩ : Dy) fun x0 => bindO (impl_PointsRight_c1 N x0) fun r => k' [⟨.bool, .imm, r⟩] []) = _
  simp only [castDm_self]
  rw [e]
  rfl
def slices_IndexFunc_Sint64_int64__impl_PointsRight_c1.sk2 : Skel := ⟨[.pv (.sl 2 (.int .i64)), .fn 39 [], .dead, .dead, .dead, .dead, .dead, .pv (.int .i64), .pv (.int .i64), .dead, .dead, .dead, .dead, .dead, .dead, .dead, .dead, .dead, .dead], []⟩
def slices_IndexFunc_Sint64_int64__impl_PointsRight_c1.xs2 : List XS := [⟨.exit 0, [], ⟨[.dead, .dead, .dead, .dead, .dead, .dead, .dead, .dead, .dead, .dead, .dead, .dead, .dead, .dead, .dead, .dead, .dead, .dead, .dead], []⟩⟩, ⟨.ret, [4], ⟨[.dead, .dead, .dead, .dead, .pv (.int .i64), .dead, .dead, .dead, .dead, .dead, .dead, .dead, .dead, .dead, .dead, .dead, .dead, .dead, .dead], []⟩⟩]
noncomputable def slices_IndexFunc_Sint64_int64__impl_PointsRight_c1.con (N : Nat) : Con := { modes := [.v], ptrs := [false], fn := fun ds k => match ds with | [d0] => castDm (.sl 2 (.int .i64)) .imm d0 fun x0 => bindO (slices_IndexFunc_Sint64_int64__impl_PointsRight_c1 N x0) fun r => k [⟨(.int .i64), .imm, r⟩] [] | _ => none }
noncomputable def slices_IndexFunc_Sint64_int64__impl_PointsRight_c1.cfg (N : Nat) : Cfg := { ty := tys, keep := [16], flt := [], elm := [(22, (.own .imm)), (23, (.own .imm)), (24, (.pr (.own .imm) .imm)), (25, (.pr (.own .imm) .imm)), (54, (.pr (.own .imm) .imm)), (55, (.pr (.own .imm) .imm))], live := [(2, [0, 1, 7, 8])], ord := [], con := [((39, [.one]), impl_PointsRight_c1.con N)], loops := [(2, loopCon N slices_IndexFunc_Sint64_int64__impl_PointsRight_c1.sk2 slices_IndexFunc_Sint64_int64__impl_PointsRight_c1.xs2 (fun {R} => slices_IndexFunc_Sint64_int64__impl_PointsRight_c1.l2 (R := R) N))], joins := [] }
theorem slices_IndexFunc_Sint64_int64__impl_PointsRight_c1.cons (N : Nat) : ConsOk Try.prog (slices_IndexFunc_Sint64_int64__impl_PointsRight_c1.cfg N).con := (consOk_cons (hb39) (impl_PointsRight_c1.ok N) (impl_PointsRight_c1.det N) consOk_nil)
theorem slices_IndexFunc_Sint64_int64__impl_PointsRight_c1.h2 {R : Type} (N : Nat) (d : slices_IndexFunc_Sint64_int64__impl_PointsRight_c1.sk2.D) (kn : slices_IndexFunc_Sint64_int64__impl_PointsRight_c1.sk2.D → Option R) (kx : XD slices_IndexFunc_Sint64_int64__impl_PointsRight_c1.xs2 → Option R) : roundK (slices_IndexFunc_Sint64_int64__impl_PointsRight_c1.cfg N) N (nthLoop (fnBody Try.f48) 0) slices_IndexFunc_Sint64_int64__impl_PointsRight_c1.sk2 slices_IndexFunc_Sint64_int64__impl_PointsRight_c1.xs2 d kn kx = slices_IndexFunc_Sint64_int64__impl_PointsRight_c1.l2 N d kn kx := by kernel_rfl
theorem slices_IndexFunc_Sint64_int64__impl_PointsRight_c1.i2 (N : Nat) : LoopsOk Try.prog (slices_IndexFunc_Sint64_int64__impl_PointsRight_c1.cfg N) (nthLoop (fnBody Try.f48) 0) := loopsL (l := []) (by kernel_rfl) trivial
theorem slices_IndexFunc_Sint64_int64__impl_PointsRight_c1.o2 (N : Nat) : LoopOk Try.prog (nthLoop (fnBody Try.f48) 0) (loopCon N slices_IndexFunc_Sint64_int64__impl_PointsRight_c1.sk2 slices_IndexFunc_Sint64_int64__impl_PointsRight_c1.xs2 (fun {R} => slices_IndexFunc_Sint64_int64__impl_PointsRight_c1.l2 (R := R) N)) := loop_ok (g := slices_IndexFunc_Sint64_int64__impl_PointsRight_c1.cfg N) tys_ok (slices_IndexFunc_Sint64_int64__impl_PointsRight_c1.cons N) mixed (slices_IndexFunc_Sint64_int64__impl_PointsRight_c1.i2 N) (fun d kn kx => slices_IndexFunc_Sint64_int64__impl_PointsRight_c1.h2 N d kn kx)
theorem slices_IndexFunc_Sint64_int64__impl_PointsRight_c1.ls (N : Nat) : LoopsOk Try.prog (slices_IndexFunc_Sint64_int64__impl_PointsRight_c1.cfg N) (fnBody Try.f48) := loopsL (l := [nthLoop (fnBody Try.f48) 0]) (by kernel_rfl) ⟨loopOne (L0 := loopCon N slices_IndexFunc_Sint64_int64__impl_PointsRight_c1.sk2 slices_IndexFunc_Sint64_int64__impl_PointsRight_c1.xs2 (fun {R} => slices_IndexFunc_Sint64_int64__impl_PointsRight_c1.l2 (R := R) N)) (id := 2) (by kernel_rfl) (by kernel_rfl) (slices_IndexFunc_Sint64_int64__impl_PointsRight_c1.o2 N), trivial⟩
theorem slices_IndexFunc_Sint64_int64__impl_PointsRight_c1.q2 {R R' : Type} {N n : Nat} {d} {k} {g : R → Option R'} : bindF (loopP (slices_IndexFunc_Sint64_int64__impl_PointsRight_c1.l2 N) n d k) g = loopP (slices_IndexFunc_Sint64_int64__impl_PointsRight_c1.l2 N) n d fun e => bindF (k e) g := bindF_loopP (fun d kn kx => by simp only [slices_IndexFunc_Sint64_int64__impl_PointsRight_c1.l2, bindF_ifB, bindF_bindO, bindF_pure, bindF_none, bindF_onSum]) n d k
theorem slices_IndexFunc_Sint64_int64__impl_PointsRight_c1.b (N : Nat) (x0 : den (.sl 2 (.int .i64))) : body (slices_IndexFunc_Sint64_int64__impl_PointsRight_c1.cfg N) N Try.f48 [.one, .fn 39 0] [.v] [(false, .imm)] [⟨(.sl 2 (.int .i64)), .imm, x0⟩] (fun r i => some (r, i)) = bindO (slices_IndexFunc_Sint64_int64__impl_PointsRight_c1 N x0) fun r => some ([⟨(.int .i64), .imm, r⟩], []) := by
  show _ = bindF _ _
  conv => rhs; simp only [slices_IndexFunc_Sint64_int64__impl_PointsRight_c1, bindF_ifB, bindF_bindO, bindF_pure, bindF_none, bindF_onSum, slices_IndexFunc_Sint64_int64__impl_PointsRight_c1.q2]
  kernel_rfl
theorem slices_IndexFunc_Sint64_int64__impl_PointsRight_c1.ok (N : Nat) : ConOk Try.prog 48 [.one, .fn 39 0] (slices_IndexFunc_Sint64_int64__impl_PointsRight_c1.con N) := by
  refine conOk_mk (g := slices_IndexFunc_Sint64_int64__impl_PointsRight_c1.cfg N) (N := N) (res := [(false, .imm)]) tys_ok (slices_IndexFunc_Sint64_int64__impl_PointsRight_c1.cons N) mixed Try.func48 (slices_IndexFunc_Sint64_int64__impl_PointsRight_c1.ls N) rfl rfl ?_
  intro ds R k y h
  cases ds with
  | nil => exact none_some h
  | cons d0 ds =>
  cases ds with
  | cons _ _ => exact none_some h
  | nil =>
  have h0 : (castDm (.sl 2 (.int .i64)) .imm d0 fun x0 => bindO (slices_IndexFunc_Sint64_int64__impl_PointsRight_c1 N x0) fun r => k [⟨(.int .i64), .imm, r⟩] []) = some y := h
  clear h
  obtain ⟨x0, rfl, h1⟩ := castDm_eq h0
  exact con_fin (slices_IndexFunc_Sint64_int64__impl_PointsRight_c1.b N x0) h1
theorem slices_IndexFunc_Sint64_int64__impl_PointsRight_c1.det (N : Nat) : ConDet (slices_IndexFunc_Sint64_int64__impl_PointsRight_c1.con N) := by
  intro ds R k y h
  cases ds with
  | nil => exact none_some h
  | cons d0 ds =>
  cases ds with
  | cons _ _ => exact none_some h
  | nil =>
  have h0 : (castDm (.sl 2 (.int .i64)) .imm d0 fun x0 => bindO (slices_IndexFunc_Sint64_int64__impl_PointsRight_c1 N x0) fun r => k [⟨(.int .i64), .imm, r⟩] []) = some y := h
  clear h
  obtain ⟨x0, rfl, h1⟩ := castDm_eq h0
  obtain ⟨r, e, h⟩ := bindO_some h1
  refine ⟨_, _, h, fun k' => ?_⟩
  show (castDm (.sl 2 (.int .i64)) .imm (⟨(.sl 2 (.int .i64)), .imm, x0⟩ : Dy) fun x0 => bindO (slices_IndexFunc_Sint64_int64__impl_PointsRight_c1 N x0) fun r => k' [⟨(.int .i64), .imm, r⟩] []) = _
  simp only [castDm_self]
  rw [e]
  rfl
noncomputable def slices_ContainsFunc_Sint64_int64__impl_PointsRight_c1.con (N : Nat) : Con := { modes := [.v], ptrs := [false], fn := fun ds k => match ds with | [d0] => castDm (.sl 2 (.int .i64)) .imm d0 fun x0 => bindO (slices_ContainsFunc_Sint64_int64__impl_PointsRight_c1 N x0) fun r => k [⟨.bool, .imm, r⟩] [] | _ => none }
noncomputable def slices_ContainsFunc_Sint64_int64__impl_PointsRight_c1.cfg (N : Nat) : Cfg := { ty := tys, keep := [7], flt := [], elm := [(22, (.own .imm)), (23, (.own .imm)), (24, (.pr (.own .imm) .imm)), (25, (.pr (.own .imm) .imm)), (54, (.pr (.own .imm) .imm)), (55, (.pr (.own .imm) .imm))], live := [], ord := [], con := [((48, [.one, .fn 39 0]), slices_IndexFunc_Sint64_int64__impl_PointsRight_c1.con N)], loops := [], joins := [] }
theorem slices_ContainsFunc_Sint64_int64__impl_PointsRight_c1.cons (N : Nat) : ConsOk Try.prog (slices_ContainsFunc_Sint64_int64__impl_PointsRight_c1.cfg N).con := (consOk_cons (hb48) (slices_IndexFunc_Sint64_int64__impl_PointsRight_c1.ok N) (slices_IndexFunc_Sint64_int64__impl_PointsRight_c1.det N) consOk_nil)
theorem slices_ContainsFunc_Sint64_int64__impl_PointsRight_c1.ls (N : Nat) : LoopsOk Try.prog (slices_ContainsFunc_Sint64_int64__impl_PointsRight_c1.cfg N) (fnBody Try.f38) := loopsL (l := []) (by kernel_rfl) trivial
theorem slices_ContainsFunc_Sint64_int64__impl_PointsRight_c1.b (N : Nat) (x0 : den (.sl 2 (.int .i64))) : body (slices_ContainsFunc_Sint64_int64__impl_PointsRight_c1.cfg N) N Try.f38 [.one, .fn 39 0] [.v] [(false, .imm)] [⟨(.sl 2 (.int .i64)), .imm, x0⟩] (fun r i => some (r, i)) = bindO (slices_ContainsFunc_Sint64_int64__impl_PointsRight_c1 N x0) fun r => some ([⟨.bool, .imm, r⟩], []) := by
  show _ = bindF _ _
  conv => rhs; simp only [slices_ContainsFunc_Sint64_int64__impl_PointsRight_c1, bindF_ifB, bindF_bindO, bindF_pure, bindF_none, bindF_onSum]
  kernel_rfl
theorem slices_ContainsFunc_Sint64_int64__impl_PointsRight_c1.ok (N : Nat) : ConOk Try.prog 38 [.one, .fn 39 0] (slices_ContainsFunc_Sint64_int64__impl_PointsRight_c1.con N) := by
  refine conOk_mk (g := slices_ContainsFunc_Sint64_int64__impl_PointsRight_c1.cfg N) (N := N) (res := [(false, .imm)]) tys_ok (slices_ContainsFunc_Sint64_int64__impl_PointsRight_c1.cons N) mixed Try.func38 (slices_ContainsFunc_Sint64_int64__impl_PointsRight_c1.ls N) rfl rfl ?_
  intro ds R k y h
  cases ds with
  | nil => exact none_some h
  | cons d0 ds =>
  cases ds with
  | cons _ _ => exact none_some h
  | nil =>
  have h0 : (castDm (.sl 2 (.int .i64)) .imm d0 fun x0 => bindO (slices_ContainsFunc_Sint64_int64__impl_PointsRight_c1 N x0) fun r => k [⟨.bool, .imm, r⟩] []) = some y := h
  clear h
  obtain ⟨x0, rfl, h1⟩ := castDm_eq h0
  exact con_fin (slices_ContainsFunc_Sint64_int64__impl_PointsRight_c1.b N x0) h1
theorem slices_ContainsFunc_Sint64_int64__impl_PointsRight_c1.det (N : Nat) : ConDet (slices_ContainsFunc_Sint64_int64__impl_PointsRight_c1.con N) := by
  intro ds R k y h
  cases ds with
  | nil => exact none_some h
  | cons d0 ds =>
  cases ds with
  | cons _ _ => exact none_some h
  | nil =>
  have h0 : (castDm (.sl 2 (.int .i64)) .imm d0 fun x0 => bindO (slices_ContainsFunc_Sint64_int64__impl_PointsRight_c1 N x0) fun r => k [⟨.bool, .imm, r⟩] []) = some y := h
  clear h
  obtain ⟨x0, rfl, h1⟩ := castDm_eq h0
  obtain ⟨r, e, h⟩ := bindO_some h1
  refine ⟨_, _, h, fun k' => ?_⟩
  show (castDm (.sl 2 (.int .i64)) .imm (⟨(.sl 2 (.int .i64)), .imm, x0⟩ : Dy) fun x0 => bindO (slices_ContainsFunc_Sint64_int64__impl_PointsRight_c1 N x0) fun r => k' [⟨.bool, .imm, r⟩] []) = _
  simp only [castDm_self]
  rw [e]
  rfl
noncomputable def impl_PointsRight.con (N : Nat) : Con := { modes := [.v], ptrs := [false], fn := fun ds k => match ds with | [d0] => castDm (.sl 2 (.int .i64)) .imm d0 fun x0 => bindO (impl_PointsRight N x0) fun r => k [⟨.bool, .imm, r⟩] [] | _ => none }
noncomputable def impl_PointsRight.cfg (N : Nat) : Cfg := { ty := tys, keep := [8], flt := [], elm := [(22, (.own .imm)), (23, (.own .imm)), (24, (.pr (.own .imm) .imm)), (25, (.pr (.own .imm) .imm)), (54, (.pr (.own .imm) .imm)), (55, (.pr (.own .imm) .imm))], live := [], ord := [], con := [((38, [.one, .fn 39 0]), slices_ContainsFunc_Sint64_int64__impl_PointsRight_c1.con N)], loops := [], joins := [] }
theorem impl_PointsRight.cons (N : Nat) : ConsOk Try.prog (impl_PointsRight.cfg N).con := (consOk_cons (hb38) (slices_ContainsFunc_Sint64_int64__impl_PointsRight_c1.ok N) (slices_ContainsFunc_Sint64_int64__impl_PointsRight_c1.det N) consOk_nil)
theorem impl_PointsRight.ls (N : Nat) : LoopsOk Try.prog (impl_PointsRight.cfg N) (fnBody Try.f32) := loopsL (l := []) (by kernel_rfl) trivial
theorem impl_PointsRight.b (N : Nat) (x0 : den (.sl 2 (.int .i64))) : body (impl_PointsRight.cfg N) N Try.f32 [.one] [.v] [(false, .imm)] [⟨(.sl 2 (.int .i64)), .imm, x0⟩] (fun r i => some (r, i)) = bindO (impl_PointsRight N x0) fun r => some ([⟨.bool, .imm, r⟩], []) := by
  show _ = bindF _ _
  conv => rhs; simp only [impl_PointsRight, bindF_ifB, bindF_bindO, bindF_pure, bindF_none, bindF_onSum]
  kernel_rfl
theorem impl_PointsRight.ok (N : Nat) : ConOk Try.prog 32 [.one] (impl_PointsRight.con N) := by
  refine conOk_mk (g := impl_PointsRight.cfg N) (N := N) (res := [(false, .imm)]) tys_ok (impl_PointsRight.cons N) mixed Try.func32 (impl_PointsRight.ls N) rfl rfl ?_
  intro ds R k y h
  cases ds with
  | nil => exact none_some h
  | cons d0 ds =>
  cases ds with
  | cons _ _ => exact none_some h
  | nil =>
  have h0 : (castDm (.sl 2 (.int .i64)) .imm d0 fun x0 => bindO (impl_PointsRight N x0) fun r => k [⟨.bool, .imm, r⟩] []) = some y := h
  clear h
  obtain ⟨x0, rfl, h1⟩ := castDm_eq h0
  exact con_fin (impl_PointsRight.b N x0) h1
theorem impl_PointsRight.det (N : Nat) : ConDet (impl_PointsRight.con N) := by
  intro ds R k y h
  cases ds with
  | nil => exact none_some h
  | cons d0 ds =>
  cases ds with
  | cons _ _ => exact none_some h
  | nil =>
  have h0 : (castDm (.sl 2 (.int .i64)) .imm d0 fun x0 => bindO (impl_PointsRight N x0) fun r => k [⟨.bool, .imm, r⟩] []) = some y := h
  clear h
  obtain ⟨x0, rfl, h1⟩ := castDm_eq h0
  obtain ⟨r, e, h⟩ := bindO_some h1
  refine ⟨_, _, h, fun k' => ?_⟩
  show (castDm (.sl 2 (.int .i64)) .imm (⟨(.sl 2 (.int .i64)), .imm, x0⟩ : Dy) fun x0 => bindO (impl_PointsRight N x0) fun r => k' [⟨.bool, .imm, r⟩] []) = _
  simp only [castDm_self]
  rw [e]
  rfl
noncomputable def impl_size_Sint64.con (N : Nat) : Con := { modes := [.v], ptrs := [false], fn := fun ds k => match ds with | [d0] => castDm (.sl 2 (.int .i64)) .imm d0 fun x0 => bindO (impl_size_Sint64 N x0) fun r => k [⟨(.int .i64), .imm, r⟩] [] | _ => none }
noncomputable def impl_size_Sint64.cfg (N : Nat) : Cfg := { ty := tys, keep := [], flt := [], elm := [(22, (.own .imm)), (23, (.own .imm)), (24, (.pr (.own .imm) .imm)), (25, (.pr (.own .imm) .imm)), (54, (.pr (.own .imm) .imm)), (55, (.pr (.own .imm) .imm))], live := [], ord := [], con := [], loops := [], joins := [] }
theorem impl_size_Sint64.cons (N : Nat) : ConsOk Try.prog (impl_size_Sint64.cfg N).con := consOk_nil
theorem impl_size_Sint64.ls (N : Nat) : LoopsOk Try.prog (impl_size_Sint64.cfg N) (fnBody Try.f41) := loopsL (l := []) (by kernel_rfl) trivial
theorem impl_size_Sint64.b (N : Nat) (x0 : den (.sl 2 (.int .i64))) : body (impl_size_Sint64.cfg N) N Try.f41 [.one] [.v] [(false, .imm)] [⟨(.sl 2 (.int .i64)), .imm, x0⟩] (fun r i => some (r, i)) = bindO (impl_size_Sint64 N x0) fun r => some ([⟨(.int .i64), .imm, r⟩], []) := by
  show _ = bindF _ _
  conv => rhs; simp only [impl_size_Sint64, bindF_ifB, bindF_bindO, bindF_pure, bindF_none, bindF_onSum]
  kernel_rfl
theorem impl_size_Sint64.ok (N : Nat) : ConOk Try.prog 41 [.one] (impl_size_Sint64.con N) := by
  refine conOk_mk (g := impl_size_Sint64.cfg N) (N := N) (res := [(false, .imm)]) tys_ok (impl_size_Sint64.cons N) mixed Try.func41 (impl_size_Sint64.ls N) rfl rfl ?_
  intro ds R k y h
  cases ds with
  | nil => exact none_some h
  | cons d0 ds =>
  cases ds with
  | cons _ _ => exact none_some h
  | nil =>
  have h0 : (castDm (.sl 2 (.int .i64)) .imm d0 fun x0 => bindO (impl_size_Sint64 N x0) fun r => k [⟨(.int .i64), .imm, r⟩] []) = some y := h
  clear h
  obtain ⟨x0, rfl, h1⟩ := castDm_eq h0
  exact con_fin (impl_size_Sint64.b N x0) h1
theorem impl_size_Sint64.det (N : Nat) : ConDet (impl_size_Sint64.con N) := by
  intro ds R k y h
  cases ds with
  | nil => exact none_some h
  | cons d0 ds =>
  cases ds with
  | cons _ _ => exact none_some h
  | nil =>
  have h0 : (castDm (.sl 2 (.int .i64)) .imm d0 fun x0 => bindO (impl_size_Sint64 N x0) fun r => k [⟨(.int .i64), .imm, r⟩] []) = some y := h
  clear h
  obtain ⟨x0, rfl, h1⟩ := castDm_eq h0
  obtain ⟨r, e, h⟩ := bindO_some h1
  refine ⟨_, _, h, fun k' => ?_⟩
  show (castDm (.sl 2 (.int .i64)) .imm (⟨(.sl 2 (.int .i64)), .imm, x0⟩ : Dy) fun x0 => bindO (impl_size_Sint64 N x0) fun r => k' [⟨(.int .i64), .imm, r⟩] []) = _
  simp only [castDm_self]
  rw [e]
  rfl
noncomputable def impl_Buf_isPlace.con (N : Nat) : Con := { modes := [.rd, .v], ptrs := [false], fn := fun ds k => match ds with | [d0, d1] => castDm (.pair (.sl 2 (.int .i64)) (.pair (.int .i64) (.pair (.int .i64) .unit))) .imm d0 fun x0 => castDm (.int .i64) .imm d1 fun x1 => bindO (impl_Buf_isPlace N x0 x1) fun r => k [⟨.bool, .imm, r⟩] [] | _ => none }
noncomputable def impl_Buf_isPlace.cfg (N : Nat) : Cfg := { ty := tys, keep := [10, 11], flt := [], elm := [(22, (.own .imm)), (23, (.own .imm)), (24, (.pr (.own .imm) .imm)), (25, (.pr (.own .imm) .imm)), (54, (.pr (.own .imm) .imm)), (55, (.pr (.own .imm) .imm))], live := [], ord := [], con := [((41, [.one]), impl_size_Sint64.con N), ((16, [.one, .one, .one]), impl_within.con N)], loops := [], joins := [] }
theorem impl_Buf_isPlace.cons (N : Nat) : ConsOk Try.prog (impl_Buf_isPlace.cfg N).con := (consOk_cons (hb41) (impl_size_Sint64.ok N) (impl_size_Sint64.det N) (consOk_cons (hb16) (impl_within.ok N) (impl_within.det N) consOk_nil))
theorem impl_Buf_isPlace.ls (N : Nat) : LoopsOk Try.prog (impl_Buf_isPlace.cfg N) (fnBody Try.f33) := loopsL (l := []) (by kernel_rfl) trivial
theorem impl_Buf_isPlace.b (N : Nat) (x0 : den (.pair (.sl 2 (.int .i64)) (.pair (.int .i64) (.pair (.int .i64) .unit)))) (x1 : den (.int .i64)) : body (impl_Buf_isPlace.cfg N) N Try.f33 [.one, .one] [.rd, .v] [(false, .imm)] [⟨(.pair (.sl 2 (.int .i64)) (.pair (.int .i64) (.pair (.int .i64) .unit))), .imm, x0⟩, ⟨(.int .i64), .imm, x1⟩] (fun r i => some (r, i)) = bindO (impl_Buf_isPlace N x0 x1) fun r => some ([⟨.bool, .imm, r⟩], []) := by
  show _ = bindF _ _
  conv => rhs; simp only [impl_Buf_isPlace, bindF_ifB, bindF_bindO, bindF_pure, bindF_none, bindF_onSum]
  kernel_rfl
theorem impl_Buf_isPlace.ok (N : Nat) : ConOk Try.prog 33 [.one, .one] (impl_Buf_isPlace.con N) := by
  refine conOk_mk (g := impl_Buf_isPlace.cfg N) (N := N) (res := [(false, .imm)]) tys_ok (impl_Buf_isPlace.cons N) mixed Try.func33 (impl_Buf_isPlace.ls N) rfl rfl ?_
  intro ds R k y h
  cases ds with
  | nil => exact none_some h
  | cons d0 ds =>
  cases ds with
  | nil => exact none_some h
  | cons d1 ds =>
  cases ds with
  | cons _ _ => exact none_some h
  | nil =>
  have h0 : (castDm (.pair (.sl 2 (.int .i64)) (.pair (.int .i64) (.pair (.int .i64) .unit))) .imm d0 fun x0 => castDm (.int .i64) .imm d1 fun x1 => bindO (impl_Buf_isPlace N x0 x1) fun r => k [⟨.bool, .imm, r⟩] []) = some y := h
  clear h
  obtain ⟨x0, rfl, h1⟩ := castDm_eq h0
  obtain ⟨x1, rfl, h2⟩ := castDm_eq h1
  exact con_fin (impl_Buf_isPlace.b N x0 x1) h2
theorem impl_Buf_isPlace.det (N : Nat) : ConDet (impl_Buf_isPlace.con N) := by
  intro ds R k y h
  cases ds with
  | nil => exact none_some h
  | cons d0 ds =>
  cases ds with
  | nil => exact none_some h
  | cons d1 ds =>
  cases ds with
  | cons _ _ => exact none_some h
  | nil =>
  have h0 : (castDm (.pair (.sl 2 (.int .i64)) (.pair (.int .i64) (.pair (.int .i64) .unit))) .imm d0 fun x0 => castDm (.int .i64) .imm d1 fun x1 => bindO (impl_Buf_isPlace N x0 x1) fun r => k [⟨.bool, .imm, r⟩] []) = some y := h
  clear h
  obtain ⟨x0, rfl, h1⟩ := castDm_eq h0
  obtain ⟨x1, rfl, h2⟩ := castDm_eq h1
  obtain ⟨r, e, h⟩ := bindO_some h2
  refine ⟨_, _, h, fun k' => ?_⟩
  show (castDm (.pair (.sl 2 (.int .i64)) (.pair (.int .i64) (.pair (.int .i64) .unit))) .imm (⟨(.pair (.sl 2 (.int .i64)) (.pair (.int .i64) (.pair (.int .i64) .unit))), .imm, x0⟩ : Dy) fun x0 => castDm (.int .i64) .imm (⟨(.int .i64), .imm, x1⟩ : Dy) fun x1 => bindO (impl_Buf_isPlace N x0 x1) fun r => k' [⟨.bool, .imm, r⟩] []) = _
  simp only [castDm_self]
  rw [e]
  rfl
noncomputable def impl_BufRight.con (N : Nat) : Con := { modes := [.v], ptrs := [false], fn := fun ds k => match ds with | [d0] => castDm (.pair (.sl 2 (.int .i64)) (.pair (.int .i64) (.pair (.int .i64) .unit))) .imm d0 fun x0 => bindO (impl_BufRight N x0) fun r => k [⟨.bool, .imm, r⟩] [] | _ => none }
noncomputable def impl_BufRight.cfg (N : Nat) : Cfg := { ty := tys, keep := [5, 9, 14], flt := [], elm := [(22, (.own .imm)), (23, (.own .imm)), (24, (.pr (.own .imm) .imm)), (25, (.pr (.own .imm) .imm)), (54, (.pr (.own .imm) .imm)), (55, (.pr (.own .imm) .imm))], live := [], ord := [], con := [((32, [.one]), impl_PointsRight.con N), ((33, [.one, .one]), impl_Buf_isPlace.con N)], loops := [], joins := [] }
theorem impl_BufRight.cons (N : Nat) : ConsOk Try.prog (impl_BufRight.cfg N).con := (consOk_cons (hb32) (impl_PointsRight.ok N) (impl_PointsRight.det N) (consOk_cons (hb33) (impl_Buf_isPlace.ok N) (impl_Buf_isPlace.det N) consOk_nil))
theorem impl_BufRight.ls (N : Nat) : LoopsOk Try.prog (impl_BufRight.cfg N) (fnBody Try.f15) := loopsL (l := []) (by kernel_rfl) trivial
theorem impl_BufRight.b (N : Nat) (x0 : den (.pair (.sl 2 (.int .i64)) (.pair (.int .i64) (.pair (.int .i64) .unit)))) : body (impl_BufRight.cfg N) N Try.f15 [.one] [.v] [(false, .imm)] [⟨(.pair (.sl 2 (.int .i64)) (.pair (.int .i64) (.pair (.int .i64) .unit))), .imm, x0⟩] (fun r i => some (r, i)) = bindO (impl_BufRight N x0) fun r => some ([⟨.bool, .imm, r⟩], []) := by
  show _ = bindF _ _
  conv => rhs; simp only [impl_BufRight, bindF_ifB, bindF_bindO, bindF_pure, bindF_none, bindF_onSum]
  kernel_rfl
theorem impl_BufRight.ok (N : Nat) : ConOk Try.prog 15 [.one] (impl_BufRight.con N) := by
  refine conOk_mk (g := impl_BufRight.cfg N) (N := N) (res := [(false, .imm)]) tys_ok (impl_BufRight.cons N) mixed Try.func15 (impl_BufRight.ls N) rfl rfl ?_
  intro ds R k y h
  cases ds with
  | nil => exact none_some h
  | cons d0 ds =>
  cases ds with
  | cons _ _ => exact none_some h
  | nil =>
  have h0 : (castDm (.pair (.sl 2 (.int .i64)) (.pair (.int .i64) (.pair (.int .i64) .unit))) .imm d0 fun x0 => bindO (impl_BufRight N x0) fun r => k [⟨.bool, .imm, r⟩] []) = some y := h
  clear h
  obtain ⟨x0, rfl, h1⟩ := castDm_eq h0
  exact con_fin (impl_BufRight.b N x0) h1
theorem impl_BufRight.det (N : Nat) : ConDet (impl_BufRight.con N) := by
  intro ds R k y h
  cases ds with
  | nil => exact none_some h
  | cons d0 ds =>
  cases ds with
  | cons _ _ => exact none_some h
  | nil =>
  have h0 : (castDm (.pair (.sl 2 (.int .i64)) (.pair (.int .i64) (.pair (.int .i64) .unit))) .imm d0 fun x0 => bindO (impl_BufRight N x0) fun r => k [⟨.bool, .imm, r⟩] []) = some y := h
  clear h
  obtain ⟨x0, rfl, h1⟩ := castDm_eq h0
  obtain ⟨r, e, h⟩ := bindO_some h1
  refine ⟨_, _, h, fun k' => ?_⟩
  show (castDm (.pair (.sl 2 (.int .i64)) (.pair (.int .i64) (.pair (.int .i64) .unit))) .imm (⟨(.pair (.sl 2 (.int .i64)) (.pair (.int .i64) (.pair (.int .i64) .unit))), .imm, x0⟩ : Dy) fun x0 => bindO (impl_BufRight N x0) fun r => k' [⟨.bool, .imm, r⟩] []) = _
  simp only [castDm_self]
  rw [e]
  rfl
noncomputable def impl_ClassOf.con (N : Nat) : Con := { modes := [.v], ptrs := [false], fn := fun ds k => match ds with | [d0] => castDm (.int .i64) .imm d0 fun x0 => bindO (impl_ClassOf N x0) fun r => k [⟨(.int .i64), .imm, r⟩] [] | _ => none }
noncomputable def impl_ClassOf.cfg (N : Nat) : Cfg := { ty := tys, keep := [5, 20, 23, 27], flt := [], elm := [(22, (.own .imm)), (23, (.own .imm)), (24, (.pr (.own .imm) .imm)), (25, (.pr (.own .imm) .imm)), (54, (.pr (.own .imm) .imm)), (55, (.pr (.own .imm) .imm))], live := [], ord := [], con := [((40, [.one]), impl_isPoint.con N), ((16, [.one, .one, .one]), impl_within.con N)], loops := [], joins := [] }
theorem impl_ClassOf.cons (N : Nat) : ConsOk Try.prog (impl_ClassOf.cfg N).con := (consOk_cons (hb40) (impl_isPoint.ok N) (impl_isPoint.det N) (consOk_cons (hb16) (impl_within.ok N) (impl_within.det N) consOk_nil))
theorem impl_ClassOf.ls (N : Nat) : LoopsOk Try.prog (impl_ClassOf.cfg N) (fnBody Try.f52) := loopsL (l := []) (by kernel_rfl) trivial
theorem impl_ClassOf.b (N : Nat) (x0 : den (.int .i64)) : body (impl_ClassOf.cfg N) N Try.f52 [.one] [.v] [(false, .imm)] [⟨(.int .i64), .imm, x0⟩] (fun r i => some (r, i)) = bindO (impl_ClassOf N x0) fun r => some ([⟨(.int .i64), .imm, r⟩], []) := by
  show _ = bindF _ _
  conv => rhs; simp only [impl_ClassOf, bindF_ifB, bindF_bindO, bindF_pure, bindF_none, bindF_onSum]
  kernel_rfl
theorem impl_ClassOf.ok (N : Nat) : ConOk Try.prog 52 [.one] (impl_ClassOf.con N) := by
  refine conOk_mk (g := impl_ClassOf.cfg N) (N := N) (res := [(false, .imm)]) tys_ok (impl_ClassOf.cons N) mixed Try.func52 (impl_ClassOf.ls N) rfl rfl ?_
  intro ds R k y h
  cases ds with
  | nil => exact none_some h
  | cons d0 ds =>
  cases ds with
  | cons _ _ => exact none_some h
  | nil =>
  have h0 : (castDm (.int .i64) .imm d0 fun x0 => bindO (impl_ClassOf N x0) fun r => k [⟨(.int .i64), .imm, r⟩] []) = some y := h
  clear h
  obtain ⟨x0, rfl, h1⟩ := castDm_eq h0
  exact con_fin (impl_ClassOf.b N x0) h1
theorem impl_ClassOf.det (N : Nat) : ConDet (impl_ClassOf.con N) := by
  intro ds R k y h
  cases ds with
  | nil => exact none_some h
  | cons d0 ds =>
  cases ds with
  | cons _ _ => exact none_some h
  | nil =>
  have h0 : (castDm (.int .i64) .imm d0 fun x0 => bindO (impl_ClassOf N x0) fun r => k [⟨(.int .i64), .imm, r⟩] []) = some y := h
  clear h
  obtain ⟨x0, rfl, h1⟩ := castDm_eq h0
  obtain ⟨r, e, h⟩ := bindO_some h1
  refine ⟨_, _, h, fun k' => ?_⟩
  show (castDm (.int .i64) .imm (⟨(.int .i64), .imm, x0⟩ : Dy) fun x0 => bindO (impl_ClassOf N x0) fun r => k' [⟨(.int .i64), .imm, r⟩] []) = _
  simp only [castDm_self]
  rw [e]
  rfl
noncomputable def impl_Buf_isWord.con (N : Nat) : Con := { modes := [.rd, .v], ptrs := [false], fn := fun ds k => match ds with | [d0, d1] => castDm (.pair (.sl 2 (.int .i64)) (.pair (.int .i64) (.pair (.int .i64) .unit))) .imm d0 fun x0 => castDm (.int .i64) .imm d1 fun x1 => bindO (impl_Buf_isWord N x0 x1) fun r => k [⟨.bool, .imm, r⟩] [] | _ => none }
noncomputable def impl_Buf_isWord.cfg (N : Nat) : Cfg := { ty := tys, keep := [12], flt := [], elm := [(22, (.own .imm)), (23, (.own .imm)), (24, (.pr (.own .imm) .imm)), (25, (.pr (.own .imm) .imm)), (54, (.pr (.own .imm) .imm)), (55, (.pr (.own .imm) .imm))], live := [], ord := [], con := [((52, [.one]), impl_ClassOf.con N)], loops := [], joins := [] }
theorem impl_Buf_isWord.cons (N : Nat) : ConsOk Try.prog (impl_Buf_isWord.cfg N).con := (consOk_cons (hb52) (impl_ClassOf.ok N) (impl_ClassOf.det N) consOk_nil)
theorem impl_Buf_isWord.ls (N : Nat) : LoopsOk Try.prog (impl_Buf_isWord.cfg N) (fnBody Try.f49) := loopsL (l := []) (by kernel_rfl) trivial
theorem impl_Buf_isWord.b (N : Nat) (x0 : den (.pair (.sl 2 (.int .i64)) (.pair (.int .i64) (.pair (.int .i64) .unit)))) (x1 : den (.int .i64)) : body (impl_Buf_isWord.cfg N) N Try.f49 [.one, .one] [.rd, .v] [(false, .imm)] [⟨(.pair (.sl 2 (.int .i64)) (.pair (.int .i64) (.pair (.int .i64) .unit))), .imm, x0⟩, ⟨(.int .i64), .imm, x1⟩] (fun r i => some (r, i)) = bindO (impl_Buf_isWord N x0 x1) fun r => some ([⟨.bool, .imm, r⟩], []) := by
  show _ = bindF _ _
  conv => rhs; simp only [impl_Buf_isWord, bindF_ifB, bindF_bindO, bindF_pure, bindF_none, bindF_onSum]
  kernel_rfl
theorem impl_Buf_isWord.ok (N : Nat) : ConOk Try.prog 49 [.one, .one] (impl_Buf_isWord.con N) := by
  refine conOk_mk (g := impl_Buf_isWord.cfg N) (N := N) (res := [(false, .imm)]) tys_ok (impl_Buf_isWord.cons N) mixed Try.func49 (impl_Buf_isWord.ls N) rfl rfl ?_
  intro ds R k y h
  cases ds with
  | nil => exact none_some h
  | cons d0 ds =>
  cases ds with
  | nil => exact none_some h
  | cons d1 ds =>
  cases ds with
  | cons _ _ => exact none_some h
  | nil =>
  have h0 : (castDm (.pair (.sl 2 (.int .i64)) (.pair (.int .i64) (.pair (.int .i64) .unit))) .imm d0 fun x0 => castDm (.int .i64) .imm d1 fun x1 => bindO (impl_Buf_isWord N x0 x1) fun r => k [⟨.bool, .imm, r⟩] []) = some y := h
  clear h
  obtain ⟨x0, rfl, h1⟩ := castDm_eq h0
  obtain ⟨x1, rfl, h2⟩ := castDm_eq h1
  exact con_fin (impl_Buf_isWord.b N x0 x1) h2
theorem impl_Buf_isWord.det (N : Nat) : ConDet (impl_Buf_isWord.con N) := by
  intro ds R k y h
  cases ds with
  | nil => exact none_some h
  | cons d0 ds =>
  cases ds with
  | nil => exact none_some h
  | cons d1 ds =>
  cases ds with
  | cons _ _ => exact none_some h
  | nil =>
  have h0 : (castDm (.pair (.sl 2 (.int .i64)) (.pair (.int .i64) (.pair (.int .i64) .unit))) .imm d0 fun x0 => castDm (.int .i64) .imm d1 fun x1 => bindO (impl_Buf_isWord N x0 x1) fun r => k [⟨.bool, .imm, r⟩] []) = some y := h
  clear h
  obtain ⟨x0, rfl, h1⟩ := castDm_eq h0
  obtain ⟨x1, rfl, h2⟩ := castDm_eq h1
  obtain ⟨r, e, h⟩ := bindO_some h2
  refine ⟨_, _, h, fun k' => ?_⟩
  show (castDm (.pair (.sl 2 (.int .i64)) (.pair (.int .i64) (.pair (.int .i64) .unit))) .imm (⟨(.pair (.sl 2 (.int .i64)) (.pair (.int .i64) (.pair (.int .i64) .unit))), .imm, x0⟩ : Dy) fun x0 => castDm (.int .i64) .imm (⟨(.int .i64), .imm, x1⟩ : Dy) fun x1 => bindO (impl_Buf_isWord N x0 x1) fun r => k' [⟨.bool, .imm, r⟩] []) = _
  simp only [castDm_self]
  rw [e]
  rfl
def impl_Buf_wordBack.sk1 : Skel := ⟨[.rp (.pair (.sl 2 (.int .i64)) (.pair (.int .i64) (.pair (.int .i64) .unit))), .pv (.int .i64), .dead, .dead, .dead, .dead, .dead, .dead, .dead, .dead, .dead, .dead, .dead, .dead, .dead, .dead, .dead, .dead, .dead, .dead, .dead, .dead, .dead, .dead, .dead, .dead, .dead], []⟩
def impl_Buf_wordBack.xs1 : List XS := [⟨.exit 0, [0, 1, 19, 20, 21, 22], ⟨[.rp (.pair (.sl 2 (.int .i64)) (.pair (.int .i64) (.pair (.int .i64) .unit))), .pv (.int .i64), .dead, .dead, .dead, .dead, .dead, .dead, .dead, .dead, .dead, .dead, .dead, .dead, .dead, .dead, .dead, .dead, .dead, .dead, .dead, .dead, .dead, .dead, .dead, .dead, .dead], []⟩⟩]
def impl_Buf_wordBack.sk3 : Skel := ⟨[.rp (.pair (.sl 2 (.int .i64)) (.pair (.int .i64) (.pair (.int .i64) .unit))), .pv (.int .i64), .dead, .dead, .dead, .dead, .dead, .dead, .dead, .dead, .dead, .dead, .dead, .dead, .dead, .dead, .dead, .dead, .dead, .dead, .dead, .dead, .dead, .dead, .dead, .dead, .dead], []⟩
def impl_Buf_wordBack.xs3 : List XS := [⟨.exit 2, [1], ⟨[.dead, .pv (.int .i64), .dead, .dead, .dead, .dead, .dead, .dead, .dead, .dead, .dead, .dead, .dead, .dead, .dead, .dead, .dead, .dead, .dead, .dead, .dead, .dead, .dead, .dead, .dead, .dead, .dead], []⟩⟩]
noncomputable def impl_Buf_wordBack.con (N : Nat) : Con := { modes := [.rd, .v], ptrs := [false], fn := fun ds k => match ds with | [d0, d1] => castDm (.pair (.sl 2 (.int .i64)) (.pair (.int .i64) (.pair (.int .i64) .unit))) .imm d0 fun x0 => castDm (.int .i64) .imm d1 fun x1 => bindO (impl_Buf_wordBack N x0 x1) fun r => k [⟨(.int .i64), .imm, r⟩] [] | _ => none }
noncomputable def impl_Buf_wordBack.cfg (N : Nat) : Cfg := { ty := tys, keep := [11, 22], flt := [], elm := [(22, (.own .imm)), (23, (.own .imm)), (24, (.pr (.own .imm) .imm)), (25, (.pr (.own .imm) .imm)), (54, (.pr (.own .imm) .imm)), (55, (.pr (.own .imm) .imm))], live := [(3, [0, 1, 19, 20, 21, 22]), (1, [0, 1, 8, 9, 10, 11, 12, 19, 20, 21, 22])], ord := [], con := [((49, [.one, .one]), impl_Buf_isWord.con N)], loops := [(1, loopCon N impl_Buf_wordBack.sk1 impl_Buf_wordBack.xs1 (fun {R} => impl_Buf_wordBack.l1 (R := R) N)), (3, loopCon N impl_Buf_wordBack.sk3 impl_Buf_wordBack.xs3 (fun {R} => impl_Buf_wordBack.l3 (R := R) N))], joins := [] }
theorem impl_Buf_wordBack.cons (N : Nat) : ConsOk Try.prog (impl_Buf_wordBack.cfg N).con := (consOk_cons (hb49) (impl_Buf_isWord.ok N) (impl_Buf_isWord.det N) consOk_nil)
theorem impl_Buf_wordBack.h3 {R : Type} (N : Nat) (d : impl_Buf_wordBack.sk3.D) (kn : impl_Buf_wordBack.sk3.D → Option R) (kx : XD impl_Buf_wordBack.xs3 → Option R) : roundK (impl_Buf_wordBack.cfg N) N (nthLoop (fnBody Try.f42) 1) impl_Buf_wordBack.sk3 impl_Buf_wordBack.xs3 d kn kx = impl_Buf_wordBack.l3 N d kn kx := by kernel_rfl
theorem impl_Buf_wordBack.i3 (N : Nat) : LoopsOk Try.prog (impl_Buf_wordBack.cfg N) (nthLoop (fnBody Try.f42) 1) := loopsL (l := []) (by kernel_rfl) trivial
theorem impl_Buf_wordBack.o3 (N : Nat) : LoopOk Try.prog (nthLoop (fnBody Try.f42) 1) (loopCon N impl_Buf_wordBack.sk3 impl_Buf_wordBack.xs3 (fun {R} => impl_Buf_wordBack.l3 (R := R) N)) := loop_ok (g := impl_Buf_wordBack.cfg N) tys_ok (impl_Buf_wordBack.cons N) mixed (impl_Buf_wordBack.i3 N) (fun d kn kx => impl_Buf_wordBack.h3 N d kn kx)
theorem impl_Buf_wordBack.h1 {R : Type} (N : Nat) (d : impl_Buf_wordBack.sk1.D) (kn : impl_Buf_wordBack.sk1.D → Option R) (kx : XD impl_Buf_wordBack.xs1 → Option R) : roundK (impl_Buf_wordBack.cfg N) N (nthLoop (fnBody Try.f42) 0) impl_Buf_wordBack.sk1 impl_Buf_wordBack.xs1 d kn kx = impl_Buf_wordBack.l1 N d kn kx := by kernel_rfl
theorem impl_Buf_wordBack.i1 (N : Nat) : LoopsOk Try.prog (impl_Buf_wordBack.cfg N) (nthLoop (fnBody Try.f42) 0) := loopsL (l := []) (by kernel_rfl) trivial
theorem impl_Buf_wordBack.o1 (N : Nat) : LoopOk Try.prog (nthLoop (fnBody Try.f42) 0) (loopCon N impl_Buf_wordBack.sk1 impl_Buf_wordBack.xs1 (fun {R} => impl_Buf_wordBack.l1 (R := R) N)) := loop_ok (g := impl_Buf_wordBack.cfg N) tys_ok (impl_Buf_wordBack.cons N) mixed (impl_Buf_wordBack.i1 N) (fun d kn kx => impl_Buf_wordBack.h1 N d kn kx)
theorem impl_Buf_wordBack.ls (N : Nat) : LoopsOk Try.prog (impl_Buf_wordBack.cfg N) (fnBody Try.f42) := loopsL (l := [nthLoop (fnBody Try.f42) 0, nthLoop (fnBody Try.f42) 1]) (by kernel_rfl) ⟨loopOne (L0 := loopCon N impl_Buf_wordBack.sk1 impl_Buf_wordBack.xs1 (fun {R} => impl_Buf_wordBack.l1 (R := R) N)) (id := 1) (by kernel_rfl) (by kernel_rfl) (impl_Buf_wordBack.o1 N), ⟨loopOne (L0 := loopCon N impl_Buf_wordBack.sk3 impl_Buf_wordBack.xs3 (fun {R} => impl_Buf_wordBack.l3 (R := R) N)) (id := 3) (by kernel_rfl) (by kernel_rfl) (impl_Buf_wordBack.o3 N), trivial⟩⟩
theorem impl_Buf_wordBack.q3 {R R' : Type} {N n : Nat} {d} {k} {g : R → Option R'} : bindF (loopP (impl_Buf_wordBack.l3 N) n d k) g = loopP (impl_Buf_wordBack.l3 N) n d fun e => bindF (k e) g := bindF_loopP (fun d kn kx => by simp only [impl_Buf_wordBack.l3, bindF_ifB, bindF_bindO, bindF_pure, bindF_none, bindF_onSum]) n d k
theorem impl_Buf_wordBack.q1 {R R' : Type} {N n : Nat} {d} {k} {g : R → Option R'} : bindF (loopP (impl_Buf_wordBack.l1 N) n d k) g = loopP (impl_Buf_wordBack.l1 N) n d fun e => bindF (k e) g := bindF_loopP (fun d kn kx => by simp only [impl_Buf_wordBack.l1, bindF_ifB, bindF_bindO, bindF_pure, bindF_none, bindF_onSum]) n d k
theorem impl_Buf_wordBack.b (N : Nat) (x0 : den (.pair (.sl 2 (.int .i64)) (.pair (.int .i64) (.pair (.int .i64) .unit)))) (x1 : den (.int .i64)) : body (impl_Buf_wordBack.cfg N) N Try.f42 [.one, .one] [.rd, .v] [(false, .imm)] [⟨(.pair (.sl 2 (.int .i64)) (.pair (.int .i64) (.pair (.int .i64) .unit))), .imm, x0⟩, ⟨(.int .i64), .imm, x1⟩] (fun r i => some (r, i)) = bindO (impl_Buf_wordBack N x0 x1) fun r => some ([⟨(.int .i64), .imm, r⟩], []) := by
  show _ = bindF _ _
  conv => rhs; simp only [impl_Buf_wordBack, bindF_ifB, bindF_bindO, bindF_pure, bindF_none, bindF_onSum, impl_Buf_wordBack.q1, impl_Buf_wordBack.q3]
  kernel_rfl
theorem impl_Buf_wordBack.ok (N : Nat) : ConOk Try.prog 42 [.one, .one] (impl_Buf_wordBack.con N) := by
  refine conOk_mk (g := impl_Buf_wordBack.cfg N) (N := N) (res := [(false, .imm)]) tys_ok (impl_Buf_wordBack.cons N) mixed Try.func42 (impl_Buf_wordBack.ls N) rfl rfl ?_
  intro ds R k y h
  cases ds with
  | nil => exact none_some h
  | cons d0 ds =>
  cases ds with
  | nil => exact none_some h
  | cons d1 ds =>
  cases ds with
  | cons _ _ => exact none_some h
  | nil =>
  have h0 : (castDm (.pair (.sl 2 (.int .i64)) (.pair (.int .i64) (.pair (.int .i64) .unit))) .imm d0 fun x0 => castDm (.int .i64) .imm d1 fun x1 => bindO (impl_Buf_wordBack N x0 x1) fun r => k [⟨(.int .i64), .imm, r⟩] []) = some y := h
  clear h
  obtain ⟨x0, rfl, h1⟩ := castDm_eq h0
  obtain ⟨x1, rfl, h2⟩ := castDm_eq h1
  exact con_fin (impl_Buf_wordBack.b N x0 x1) h2
theorem impl_Buf_wordBack.det (N : Nat) : ConDet (impl_Buf_wordBack.con N) := by
  intro ds R k y h
  cases ds with
  | nil => exact none_some h
  | cons d0 ds =>
  cases ds with
  | nil => exact none_some h
  | cons d1 ds =>
  cases ds with
  | cons _ _ => exact none_some h
  | nil =>
  have h0 : (castDm (.pair (.sl 2 (.int .i64)) (.pair (.int .i64) (.pair (.int .i64) .unit))) .imm d0 fun x0 => castDm (.int .i64) .imm d1 fun x1 => bindO (impl_Buf_wordBack N x0 x1) fun r => k [⟨(.int .i64), .imm, r⟩] []) = some y := h
  clear h
  obtain ⟨x0, rfl, h1⟩ := castDm_eq h0
  obtain ⟨x1, rfl, h2⟩ := castDm_eq h1
  obtain ⟨r, e, h⟩ := bindO_some h2
  refine ⟨_, _, h, fun k' => ?_⟩
  show (castDm (.pair (.sl 2 (.int .i64)) (.pair (.int .i64) (.pair (.int .i64) .unit))) .imm (⟨(.pair (.sl 2 (.int .i64)) (.pair (.int .i64) (.pair (.int .i64) .unit))), .imm, x0⟩ : Dy) fun x0 => castDm (.int .i64) .imm (⟨(.int .i64), .imm, x1⟩ : Dy) fun x1 => bindO (impl_Buf_wordBack N x0 x1) fun r => k' [⟨(.int .i64), .imm, r⟩] []) = _
  simp only [castDm_self]
  rw [e]
  rfl
def impl_Buf_wordNext.sk2 : Skel := ⟨[.rp (.pair (.sl 2 (.int .i64)) (.pair (.int .i64) (.pair (.int .i64) .unit))), .pv (.int .i64), .dead, .dead, .dead, .pv (.int .i64), .dead, .dead, .dead, .dead, .dead, .dead, .dead, .dead, .dead, .dead, .dead, .dead, .dead, .dead, .dead, .dead, .dead, .dead, .dead, .dead, .dead, .dead, .dead, .dead, .dead, .dead, .dead], []⟩
def impl_Buf_wordNext.xs2 : List XS := [⟨.exit 0, [0, 1, 5, 26, 27, 28], ⟨[.rp (.pair (.sl 2 (.int .i64)) (.pair (.int .i64) (.pair (.int .i64) .unit))), .pv (.int .i64), .dead, .dead, .dead, .pv (.int .i64), .dead, .dead, .dead, .dead, .dead, .dead, .dead, .dead, .dead, .dead, .dead, .dead, .dead, .dead, .dead, .dead, .dead, .dead, .dead, .dead, .dead, .dead, .dead, .dead, .dead, .dead, .dead], []⟩⟩]
def impl_Buf_wordNext.sk4 : Skel := ⟨[.rp (.pair (.sl 2 (.int .i64)) (.pair (.int .i64) (.pair (.int .i64) .unit))), .pv (.int .i64), .dead, .dead, .dead, .pv (.int .i64), .dead, .dead, .dead, .dead, .dead, .dead, .dead, .dead, .dead, .dead, .dead, .dead, .dead, .dead, .dead, .dead, .dead, .dead, .dead, .dead, .dead, .dead, .dead, .dead, .dead, .dead, .dead], []⟩
def impl_Buf_wordNext.xs4 : List XS := [⟨.exit 2, [1], ⟨[.dead, .pv (.int .i64), .dead, .dead, .dead, .dead, .dead, .dead, .dead, .dead, .dead, .dead, .dead, .dead, .dead, .dead, .dead, .dead, .dead, .dead, .dead, .dead, .dead, .dead, .dead, .dead, .dead, .dead, .dead, .dead, .dead, .dead, .dead], []⟩⟩]
noncomputable def impl_Buf_wordNext.con (N : Nat) : Con := { modes := [.rd, .v], ptrs := [false], fn := fun ds k => match ds with | [d0, d1] => castDm (.pair (.sl 2 (.int .i64)) (.pair (.int .i64) (.pair (.int .i64) .unit))) .imm d0 fun x0 => castDm (.int .i64) .imm d1 fun x1 => bindO (impl_Buf_wordNext N x0 x1) fun r => k [⟨(.int .i64), .imm, r⟩] [] | _ => none }
noncomputable def impl_Buf_wordNext.cfg (N : Nat) : Cfg := { ty := tys, keep := [10, 17, 28], flt := [], elm := [(22, (.own .imm)), (23, (.own .imm)), (24, (.pr (.own .imm) .imm)), (25, (.pr (.own .imm) .imm)), (54, (.pr (.own .imm) .imm)), (55, (.pr (.own .imm) .imm))], live := [(4, [0, 1, 5, 26, 27, 28]), (2, [0, 1, 5, 15, 16, 17, 18, 26, 27, 28])], ord := [], con := [((41, [.one]), impl_size_Sint64.con N), ((49, [.one, .one]), impl_Buf_isWord.con N)], loops := [(2, loopCon N impl_Buf_wordNext.sk2 impl_Buf_wordNext.xs2 (fun {R} => impl_Buf_wordNext.l2 (R := R) N)), (4, loopCon N impl_Buf_wordNext.sk4 impl_Buf_wordNext.xs4 (fun {R} => impl_Buf_wordNext.l4 (R := R) N))], joins := [] }
theorem impl_Buf_wordNext.cons (N : Nat) : ConsOk Try.prog (impl_Buf_wordNext.cfg N).con := (consOk_cons (hb41) (impl_size_Sint64.ok N) (impl_size_Sint64.det N) (consOk_cons (hb49) (impl_Buf_isWord.ok N) (impl_Buf_isWord.det N) consOk_nil))
theorem impl_Buf_wordNext.h4 {R : Type} (N : Nat) (d : impl_Buf_wordNext.sk4.D) (kn : impl_Buf_wordNext.sk4.D → Option R) (kx : XD impl_Buf_wordNext.xs4 → Option R) : roundK (impl_Buf_wordNext.cfg N) N (nthLoop (fnBody Try.f43) 1) impl_Buf_wordNext.sk4 impl_Buf_wordNext.xs4 d kn kx = impl_Buf_wordNext.l4 N d kn kx := by kernel_rfl
theorem impl_Buf_wordNext.i4 (N : Nat) : LoopsOk Try.prog (impl_Buf_wordNext.cfg N) (nthLoop (fnBody Try.f43) 1) := loopsL (l := []) (by kernel_rfl) trivial
theorem impl_Buf_wordNext.o4 (N : Nat) : LoopOk Try.prog (nthLoop (fnBody Try.f43) 1) (loopCon N impl_Buf_wordNext.sk4 impl_Buf_wordNext.xs4 (fun {R} => impl_Buf_wordNext.l4 (R := R) N)) := loop_ok (g := impl_Buf_wordNext.cfg N) tys_ok (impl_Buf_wordNext.cons N) mixed (impl_Buf_wordNext.i4 N) (fun d kn kx => impl_Buf_wordNext.h4 N d kn kx)
theorem impl_Buf_wordNext.h2 {R : Type} (N : Nat) (d : impl_Buf_wordNext.sk2.D) (kn : impl_Buf_wordNext.sk2.D → Option R) (kx : XD impl_Buf_wordNext.xs2 → Option R) : roundK (impl_Buf_wordNext.cfg N) N (nthLoop (fnBody Try.f43) 0) impl_Buf_wordNext.sk2 impl_Buf_wordNext.xs2 d kn kx = impl_Buf_wordNext.l2 N d kn kx := by kernel_rfl
theorem impl_Buf_wordNext.i2 (N : Nat) : LoopsOk Try.prog (impl_Buf_wordNext.cfg N) (nthLoop (fnBody Try.f43) 0) := loopsL (l := []) (by kernel_rfl) trivial
theorem impl_Buf_wordNext.o2 (N : Nat) : LoopOk Try.prog (nthLoop (fnBody Try.f43) 0) (loopCon N impl_Buf_wordNext.sk2 impl_Buf_wordNext.xs2 (fun {R} => impl_Buf_wordNext.l2 (R := R) N)) := loop_ok (g := impl_Buf_wordNext.cfg N) tys_ok (impl_Buf_wordNext.cons N) mixed (impl_Buf_wordNext.i2 N) (fun d kn kx => impl_Buf_wordNext.h2 N d kn kx)
theorem impl_Buf_wordNext.ls (N : Nat) : LoopsOk Try.prog (impl_Buf_wordNext.cfg N) (fnBody Try.f43) := loopsL (l := [nthLoop (fnBody Try.f43) 0, nthLoop (fnBody Try.f43) 1]) (by kernel_rfl) ⟨loopOne (L0 := loopCon N impl_Buf_wordNext.sk2 impl_Buf_wordNext.xs2 (fun {R} => impl_Buf_wordNext.l2 (R := R) N)) (id := 2) (by kernel_rfl) (by kernel_rfl) (impl_Buf_wordNext.o2 N), ⟨loopOne (L0 := loopCon N impl_Buf_wordNext.sk4 impl_Buf_wordNext.xs4 (fun {R} => impl_Buf_wordNext.l4 (R := R) N)) (id := 4) (by kernel_rfl) (by kernel_rfl) (impl_Buf_wordNext.o4 N), trivial⟩⟩
theorem impl_Buf_wordNext.q4 {R R' : Type} {N n : Nat} {d} {k} {g : R → Option R'} : bindF (loopP (impl_Buf_wordNext.l4 N) n d k) g = loopP (impl_Buf_wordNext.l4 N) n d fun e => bindF (k e) g := bindF_loopP (fun d kn kx => by simp only [impl_Buf_wordNext.l4, bindF_ifB, bindF_bindO, bindF_pure, bindF_none, bindF_onSum]) n d k
theorem impl_Buf_wordNext.q2 {R R' : Type} {N n : Nat} {d} {k} {g : R → Option R'} : bindF (loopP (impl_Buf_wordNext.l2 N) n d k) g = loopP (impl_Buf_wordNext.l2 N) n d fun e => bindF (k e) g := bindF_loopP (fun d kn kx => by simp only [impl_Buf_wordNext.l2, bindF_ifB, bindF_bindO, bindF_pure, bindF_none, bindF_onSum]) n d k
theorem impl_Buf_wordNext.b (N : Nat) (x0 : den (.pair (.sl 2 (.int .i64)) (.pair (.int .i64) (.pair (.int .i64) .unit)))) (x1 : den (.int .i64)) : body (impl_Buf_wordNext.cfg N) N Try.f43 [.one, .one] [.rd, .v] [(false, .imm)] [⟨(.pair (.sl 2 (.int .i64)) (.pair (.int .i64) (.pair (.int .i64) .unit))), .imm, x0⟩, ⟨(.int .i64), .imm, x1⟩] (fun r i => some (r, i)) = bindO (impl_Buf_wordNext N x0 x1) fun r => some ([⟨(.int .i64), .imm, r⟩], []) := by
  show _ = bindF _ _
  conv => rhs; simp only [impl_Buf_wordNext, bindF_ifB, bindF_bindO, bindF_pure, bindF_none, bindF_onSum, impl_Buf_wordNext.q2, impl_Buf_wordNext.q4]
  kernel_rfl
theorem impl_Buf_wordNext.ok (N : Nat) : ConOk Try.prog 43 [.one, .one] (impl_Buf_wordNext.con N) := by
  refine conOk_mk (g := impl_Buf_wordNext.cfg N) (N := N) (res := [(false, .imm)]) tys_ok (impl_Buf_wordNext.cons N) mixed Try.func43 (impl_Buf_wordNext.ls N) rfl rfl ?_
  intro ds R k y h
  cases ds with
  | nil => exact none_some h
  | cons d0 ds =>
  cases ds with
  | nil => exact none_some h
  | cons d1 ds =>
  cases ds with
  | cons _ _ => exact none_some h
  | nil =>
  have h0 : (castDm (.pair (.sl 2 (.int .i64)) (.pair (.int .i64) (.pair (.int .i64) .unit))) .imm d0 fun x0 => castDm (.int .i64) .imm d1 fun x1 => bindO (impl_Buf_wordNext N x0 x1) fun r => k [⟨(.int .i64), .imm, r⟩] []) = some y := h
  clear h
  obtain ⟨x0, rfl, h1⟩ := castDm_eq h0
  obtain ⟨x1, rfl, h2⟩ := castDm_eq h1
  exact con_fin (impl_Buf_wordNext.b N x0 x1) h2
theorem impl_Buf_wordNext.det (N : Nat) : ConDet (impl_Buf_wordNext.con N) := by
  intro ds R k y h
  cases ds with
  | nil => exact none_some h
  | cons d0 ds =>
  cases ds with
  | nil => exact none_some h
  | cons d1 ds =>
  cases ds with
  | cons _ _ => exact none_some h
  | nil =>
  have h0 : (castDm (.pair (.sl 2 (.int .i64)) (.pair (.int .i64) (.pair (.int .i64) .unit))) .imm d0 fun x0 => castDm (.int .i64) .imm d1 fun x1 => bindO (impl_Buf_wordNext N x0 x1) fun r => k [⟨(.int .i64), .imm, r⟩] []) = some y := h
  clear h
  obtain ⟨x0, rfl, h1⟩ := castDm_eq h0
  obtain ⟨x1, rfl, h2⟩ := castDm_eq h1
  obtain ⟨r, e, h⟩ := bindO_some h2
  refine ⟨_, _, h, fun k' => ?_⟩
  show (castDm (.pair (.sl 2 (.int .i64)) (.pair (.int .i64) (.pair (.int .i64) .unit))) .imm (⟨(.pair (.sl 2 (.int .i64)) (.pair (.int .i64) (.pair (.int .i64) .unit))), .imm, x0⟩ : Dy) fun x0 => castDm (.int .i64) .imm (⟨(.int .i64), .imm, x1⟩ : Dy) fun x1 => bindO (impl_Buf_wordNext N x0 x1) fun r => k' [⟨(.int .i64), .imm, r⟩] []) = _
  simp only [castDm_self]
  rw [e]
  rfl
def impl_Buf_start.sk1 : Skel := ⟨[.rp (.pair (.sl 2 (.int .i64)) (.pair (.int .i64) (.pair (.int .i64) .unit))), .pv (.int .i64), .dead, .dead, .dead, .dead, .dead, .dead, .dead, .dead, .dead, .dead, .dead, .dead, .dead, .dead, .dead, .dead, .dead, .dead, .dead], []⟩
def impl_Buf_start.xs1 : List XS := [⟨.exit 0, [1], ⟨[.dead, .pv (.int .i64), .dead, .dead, .dead, .dead, .dead, .dead, .dead, .dead, .dead, .dead, .dead, .dead, .dead, .dead, .dead, .dead, .dead, .dead, .dead], []⟩⟩]
noncomputable def impl_Buf_start.con (N : Nat) : Con := { modes := [.rd, .v], ptrs := [false], fn := fun ds k => match ds with | [d0, d1] => castDm (.pair (.sl 2 (.int .i64)) (.pair (.int .i64) (.pair (.int .i64) .unit))) .imm d0 fun x0 => castDm (.int .i64) .imm d1 fun x1 => bindO (impl_Buf_start N x0 x1) fun r => k [⟨(.int .i64), .imm, r⟩] [] | _ => none }
noncomputable def impl_Buf_start.cfg (N : Nat) : Cfg := { ty := tys, keep := [], flt := [], elm := [(22, (.own .imm)), (23, (.own .imm)), (24, (.pr (.own .imm) .imm)), (25, (.pr (.own .imm) .imm)), (54, (.pr (.own .imm) .imm)), (55, (.pr (.own .imm) .imm))], live := [(1, [0, 1, 8, 9, 10, 11, 12, 13, 14, 15, 16])], ord := [], con := [], loops := [(1, loopCon N impl_Buf_start.sk1 impl_Buf_start.xs1 (fun {R} => impl_Buf_start.l1 (R := R) N))], joins := [] }
theorem impl_Buf_start.cons (N : Nat) : ConsOk Try.prog (impl_Buf_start.cfg N).con := consOk_nil
theorem impl_Buf_start.h1 {R : Type} (N : Nat) (d : impl_Buf_start.sk1.D) (kn : impl_Buf_start.sk1.D → Option R) (kx : XD impl_Buf_start.xs1 → Option R) : roundK (impl_Buf_start.cfg N) N (nthLoop (fnBody Try.f44) 0) impl_Buf_start.sk1 impl_Buf_start.xs1 d kn kx = impl_Buf_start.l1 N d kn kx := by kernel_rfl
theorem impl_Buf_start.i1 (N : Nat) : LoopsOk Try.prog (impl_Buf_start.cfg N) (nthLoop (fnBody Try.f44) 0) := loopsL (l := []) (by kernel_rfl) trivial
theorem impl_Buf_start.o1 (N : Nat) : LoopOk Try.prog (nthLoop (fnBody Try.f44) 0) (loopCon N impl_Buf_start.sk1 impl_Buf_start.xs1 (fun {R} => impl_Buf_start.l1 (R := R) N)) := loop_ok (g := impl_Buf_start.cfg N) tys_ok (impl_Buf_start.cons N) mixed (impl_Buf_start.i1 N) (fun d kn kx => impl_Buf_start.h1 N d kn kx)
theorem impl_Buf_start.ls (N : Nat) : LoopsOk Try.prog (impl_Buf_start.cfg N) (fnBody Try.f44) := loopsL (l := [nthLoop (fnBody Try.f44) 0]) (by kernel_rfl) ⟨loopOne (L0 := loopCon N impl_Buf_start.sk1 impl_Buf_start.xs1 (fun {R} => impl_Buf_start.l1 (R := R) N)) (id := 1) (by kernel_rfl) (by kernel_rfl) (impl_Buf_start.o1 N), trivial⟩
theorem impl_Buf_start.q1 {R R' : Type} {N n : Nat} {d} {k} {g : R → Option R'} : bindF (loopP (impl_Buf_start.l1 N) n d k) g = loopP (impl_Buf_start.l1 N) n d fun e => bindF (k e) g := bindF_loopP (fun d kn kx => by simp only [impl_Buf_start.l1, bindF_ifB, bindF_bindO, bindF_pure, bindF_none, bindF_onSum]) n d k
theorem impl_Buf_start.b (N : Nat) (x0 : den (.pair (.sl 2 (.int .i64)) (.pair (.int .i64) (.pair (.int .i64) .unit)))) (x1 : den (.int .i64)) : body (impl_Buf_start.cfg N) N Try.f44 [.one, .one] [.rd, .v] [(false, .imm)] [⟨(.pair (.sl 2 (.int .i64)) (.pair (.int .i64) (.pair (.int .i64) .unit))), .imm, x0⟩, ⟨(.int .i64), .imm, x1⟩] (fun r i => some (r, i)) = bindO (impl_Buf_start N x0 x1) fun r => some ([⟨(.int .i64), .imm, r⟩], []) := by
  show _ = bindF _ _
  conv => rhs; simp only [impl_Buf_start, bindF_ifB, bindF_bindO, bindF_pure, bindF_none, bindF_onSum, impl_Buf_start.q1]
  kernel_rfl
theorem impl_Buf_start.ok (N : Nat) : ConOk Try.prog 44 [.one, .one] (impl_Buf_start.con N) := by
  refine conOk_mk (g := impl_Buf_start.cfg N) (N := N) (res := [(false, .imm)]) tys_ok (impl_Buf_start.cons N) mixed Try.func44 (impl_Buf_start.ls N) rfl rfl ?_
  intro ds R k y h
  cases ds with
  | nil => exact none_some h
  | cons d0 ds =>
  cases ds with
  | nil => exact none_some h
  | cons d1 ds =>
  cases ds with
  | cons _ _ => exact none_some h
  | nil =>
  have h0 : (castDm (.pair (.sl 2 (.int .i64)) (.pair (.int .i64) (.pair (.int .i64) .unit))) .imm d0 fun x0 => castDm (.int .i64) .imm d1 fun x1 => bindO (impl_Buf_start N x0 x1) fun r => k [⟨(.int .i64), .imm, r⟩] []) = some y := h
  clear h
  obtain ⟨x0, rfl, h1⟩ := castDm_eq h0
  obtain ⟨x1, rfl, h2⟩ := castDm_eq h1
  exact con_fin (impl_Buf_start.b N x0 x1) h2
theorem impl_Buf_start.det (N : Nat) : ConDet (impl_Buf_start.con N) := by
  intro ds R k y h
  cases ds with
  | nil => exact none_some h
  | cons d0 ds =>
  cases ds with
  | nil => exact none_some h
  | cons d1 ds =>
  cases ds with
  | cons _ _ => exact none_some h
  | nil =>
  have h0 : (castDm (.pair (.sl 2 (.int .i64)) (.pair (.int .i64) (.pair (.int .i64) .unit))) .imm d0 fun x0 => castDm (.int .i64) .imm d1 fun x1 => bindO (impl_Buf_start N x0 x1) fun r => k [⟨(.int .i64), .imm, r⟩] []) = some y := h
  clear h
  obtain ⟨x0, rfl, h1⟩ := castDm_eq h0
  obtain ⟨x1, rfl, h2⟩ := castDm_eq h1
  obtain ⟨r, e, h⟩ := bindO_some h2
  refine ⟨_, _, h, fun k' => ?_⟩
  show (castDm (.pair (.sl 2 (.int .i64)) (.pair (.int .i64) (.pair (.int .i64) .unit))) .imm (⟨(.pair (.sl 2 (.int .i64)) (.pair (.int .i64) (.pair (.int .i64) .unit))), .imm, x0⟩ : Dy) fun x0 => castDm (.int .i64) .imm (⟨(.int .i64), .imm, x1⟩ : Dy) fun x1 => bindO (impl_Buf_start N x0 x1) fun r => k' [⟨(.int .i64), .imm, r⟩] []) = _
  simp only [castDm_self]
  rw [e]
  rfl
end Go.AE.F
