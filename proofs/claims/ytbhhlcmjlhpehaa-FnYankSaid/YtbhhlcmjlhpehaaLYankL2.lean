/- The printed functions are what the program comes to: contracts. -/
import Derived.Test.YtbhhlcmjlhpehaaLYankL1
namespace Go.AE.F
open Go.AE Go.Proofs
set_option maxRecDepth 100000
noncomputable def impl_PointsRight.con (N : Nat) : Con := { modes := [.v], ptrs := [false], fn := fun ds k => match ds with | [d0] => castDm (.sl 2 (.int .i64)) .imm d0 fun x0 => bindO (impl_PointsRight N x0) fun r => k [⟨.bool, .imm, r⟩] [] | _ => none }
noncomputable def impl_PointsRight.cfg (N : Nat) : Cfg := { ty := tys, keep := [8], flt := [], elm := [(22, (.own .imm)), (23, (.own (.own .imm))), (24, (.pr (.own (.own .imm)) .imm)), (25, (.pr (.own (.own .imm)) .imm)), (26, (.own .imm)), (27, (.pr (.own .imm) .imm)), (28, (.pr (.own .imm) .imm)), (31, (.pr (.pr (.own .imm) .imm) .imm)), (32, (.pr (.pr (.own .imm) .imm) .imm)), (45, (.pr (.pr (.own .imm) .imm) (.pr (.own .imm) .imm))), (46, (.pr (.pr (.own .imm) .imm) (.pr (.own .imm) .imm))), (54, (.pr (.own .imm) .imm)), (55, (.pr (.own .imm) .imm))], live := [], ord := [], con := [((51, [.one, .fn 52 0]), slices_ContainsFunc_Sint64_int64__impl_PointsRight_c1.con N)], loops := [], joins := [] }
theorem impl_PointsRight.cons (N : Nat) : ConsOk Try.prog (impl_PointsRight.cfg N).con := (consOk_cons (hb51) (slices_ContainsFunc_Sint64_int64__impl_PointsRight_c1.ok N) (slices_ContainsFunc_Sint64_int64__impl_PointsRight_c1.det N) consOk_nil)
theorem impl_PointsRight.ls (N : Nat) : LoopsOk Try.prog (impl_PointsRight.cfg N) (fnBody Try.f44) := loopsL (l := []) (by kernel_rfl) trivial
theorem impl_PointsRight.b (N : Nat) (x0 : den (.sl 2 (.int .i64))) : body (impl_PointsRight.cfg N) N Try.f44 [.one] [.v] [(false, .imm)] [⟨(.sl 2 (.int .i64)), .imm, x0⟩] (fun r i => some (r, i)) = bindO (impl_PointsRight N x0) fun r => some ([⟨.bool, .imm, r⟩], []) := by
  show _ = bindF _ _
  conv => rhs; simp only [impl_PointsRight, bindF_ifB, bindF_bindO, bindF_pure, bindF_none, bindF_onSum]
  kernel_rfl
theorem impl_PointsRight.ok (N : Nat) : ConOk Try.prog 44 [.one] (impl_PointsRight.con N) := by
  refine conOk_mk (g := impl_PointsRight.cfg N) (N := N) (res := [(false, .imm)]) tys_ok (impl_PointsRight.cons N) mixed Try.func44 (impl_PointsRight.ls N) rfl rfl ?_
  intro ds R k y h
  cases ds with
  | nil => exact none_some h
  | cons d0 ds =>
  cases ds with
  | cons _ _ => exact none_some h
  | nil =>
  have h0 : (castDm (.sl 2 (.int .i64)) .imm d0 fun x0 => bindO (impl_PointsRight N x0) fun r => k [⟨.bool, .imm, r⟩] []) = some y := h
  clear h
  obtain ⟨x0, rfl, h1⟩ := castDm_eq h0
  exact con_fin (impl_PointsRight.b N x0) h1
theorem impl_PointsRight.det (N : Nat) : ConDet (impl_PointsRight.con N) := by
  intro ds R k y h
  cases ds with
  | nil => exact none_some h
  | cons d0 ds =>
  cases ds with
  | cons _ _ => exact none_some h
  | nil =>
  have h0 : (castDm (.sl 2 (.int .i64)) .imm d0 fun x0 => bindO (impl_PointsRight N x0) fun r => k [⟨.bool, .imm, r⟩] []) = some y := h
  clear h
  obtain ⟨x0, rfl, h1⟩ := castDm_eq h0
  obtain ⟨r, e, h⟩ := bindO_some h1
  refine ⟨_, _, h, fun k' => ?_⟩
  show (castDm (.sl 2 (.int .i64)) .imm (⟨(.sl 2 (.int .i64)), .imm, x0⟩ : Dy) fun x0 => bindO (impl_PointsRight N x0) fun r => k' [⟨.bool, .imm, r⟩] []) = _
  simp only [castDm_self]
  rw [e]
  rfl
noncomputable def impl_isItem.con (N : Nat) : Con := { modes := [.v], ptrs := [false], fn := fun ds k => match ds with | [d0] => castDm (.sl 2 (.int .i64)) .imm d0 fun x0 => bindO (impl_isItem N x0) fun r => k [⟨.bool, .imm, r⟩] [] | _ => none }
noncomputable def impl_isItem.cfg (N : Nat) : Cfg := { ty := tys, keep := [8], flt := [], elm := [(22, (.own .imm)), (23, (.own (.own .imm))), (24, (.pr (.own (.own .imm)) .imm)), (25, (.pr (.own (.own .imm)) .imm)), (26, (.own .imm)), (27, (.pr (.own .imm) .imm)), (28, (.pr (.own .imm) .imm)), (31, (.pr (.pr (.own .imm) .imm) .imm)), (32, (.pr (.pr (.own .imm) .imm) .imm)), (45, (.pr (.pr (.own .imm) .imm) (.pr (.own .imm) .imm))), (46, (.pr (.pr (.own .imm) .imm) (.pr (.own .imm) .imm))), (54, (.pr (.own .imm) .imm)), (55, (.pr (.own .imm) .imm))], live := [], ord := [], con := [((44, [.one]), impl_PointsRight.con N)], loops := [], joins := [] }
theorem impl_isItem.cons (N : Nat) : ConsOk Try.prog (impl_isItem.cfg N).con := (consOk_cons (hb44) (impl_PointsRight.ok N) (impl_PointsRight.det N) consOk_nil)
theorem impl_isItem.ls (N : Nat) : LoopsOk Try.prog (impl_isItem.cfg N) (fnBody Try.f49) := loopsL (l := []) (by kernel_rfl) trivial
theorem impl_isItem.b (N : Nat) (x0 : den (.sl 2 (.int .i64))) : body (impl_isItem.cfg N) N Try.f49 [.one] [.v] [(false, .imm)] [⟨(.sl 2 (.int .i64)), .imm, x0⟩] (fun r i => some (r, i)) = bindO (impl_isItem N x0) fun r => some ([⟨.bool, .imm, r⟩], []) := by
  show _ = bindF _ _
  conv => rhs; simp only [impl_isItem, bindF_ifB, bindF_bindO, bindF_pure, bindF_none, bindF_onSum]
  kernel_rfl
theorem impl_isItem.ok (N : Nat) : ConOk Try.prog 49 [.one] (impl_isItem.con N) := by
  refine conOk_mk (g := impl_isItem.cfg N) (N := N) (res := [(false, .imm)]) tys_ok (impl_isItem.cons N) mixed Try.func49 (impl_isItem.ls N) rfl rfl ?_
  intro ds R k y h
  cases ds with
  | nil => exact none_some h
  | cons d0 ds =>
  cases ds with
  | cons _ _ => exact none_some h
  | nil =>
  have h0 : (castDm (.sl 2 (.int .i64)) .imm d0 fun x0 => bindO (impl_isItem N x0) fun r => k [⟨.bool, .imm, r⟩] []) = some y := h
  clear h
  obtain ⟨x0, rfl, h1⟩ := castDm_eq h0
  exact con_fin (impl_isItem.b N x0) h1
theorem impl_isItem.det (N : Nat) : ConDet (impl_isItem.con N) := by
  intro ds R k y h
  cases ds with
  | nil => exact none_some h
  | cons d0 ds =>
  cases ds with
  | cons _ _ => exact none_some h
  | nil =>
  have h0 : (castDm (.sl 2 (.int .i64)) .imm d0 fun x0 => bindO (impl_isItem N x0) fun r => k [⟨.bool, .imm, r⟩] []) = some y := h
  clear h
  obtain ⟨x0, rfl, h1⟩ := castDm_eq h0
  obtain ⟨r, e, h⟩ := bindO_some h1
  refine ⟨_, _, h, fun k' => ?_⟩
  show (castDm (.sl 2 (.int .i64)) .imm (⟨(.sl 2 (.int .i64)), .imm, x0⟩ : Dy) fun x0 => bindO (impl_isItem N x0) fun r => k' [⟨.bool, .imm, r⟩] []) = _
  simp only [castDm_self]
  rw [e]
  rfl
noncomputable def impl_areItems_c1.con (N : Nat) : Con := { modes := [.v], ptrs := [false], fn := fun ds k => match ds with | [d0] => castDm (.sl 2 (.int .i64)) .imm d0 fun x0 => bindO (impl_areItems_c1 N x0) fun r => k [⟨.bool, .imm, r⟩] [] | _ => none }
noncomputable def impl_areItems_c1.cfg (N : Nat) : Cfg := { ty := tys, keep := [4], flt := [], elm := [(22, (.own .imm)), (23, (.own (.own .imm))), (24, (.pr (.own (.own .imm)) .imm)), (25, (.pr (.own (.own .imm)) .imm)), (26, (.own .imm)), (27, (.pr (.own .imm) .imm)), (28, (.pr (.own .imm) .imm)), (31, (.pr (.pr (.own .imm) .imm) .imm)), (32, (.pr (.pr (.own .imm) .imm) .imm)), (45, (.pr (.pr (.own .imm) .imm) (.pr (.own .imm) .imm))), (46, (.pr (.pr (.own .imm) .imm) (.pr (.own .imm) .imm))), (54, (.pr (.own .imm) .imm)), (55, (.pr (.own .imm) .imm))], live := [], ord := [], con := [((49, [.one]), impl_isItem.con N)], loops := [], joins := [] }
theorem impl_areItems_c1.cons (N : Nat) : ConsOk Try.prog (impl_areItems_c1.cfg N).con := (consOk_cons (hb49) (impl_isItem.ok N) (impl_isItem.det N) consOk_nil)
theorem impl_areItems_c1.ls (N : Nat) : LoopsOk Try.prog (impl_areItems_c1.cfg N) (fnBody Try.f48) := loopsL (l := []) (by kernel_rfl) trivial
theorem impl_areItems_c1.b (N : Nat) (x0 : den (.sl 2 (.int .i64))) : body (impl_areItems_c1.cfg N) N Try.f48 [.one] [.v] [(false, .imm)] [⟨(.sl 2 (.int .i64)), .imm, x0⟩] (fun r i => some (r, i)) = bindO (impl_areItems_c1 N x0) fun r => some ([⟨.bool, .imm, r⟩], []) := by
  show _ = bindF _ _
  conv => rhs; simp only [impl_areItems_c1, bindF_ifB, bindF_bindO, bindF_pure, bindF_none, bindF_onSum]
  kernel_rfl
theorem impl_areItems_c1.ok (N : Nat) : ConOk Try.prog 48 [.one] (impl_areItems_c1.con N) := by
  refine conOk_mk (g := impl_areItems_c1.cfg N) (N := N) (res := [(false, .imm)]) tys_ok (impl_areItems_c1.cons N) mixed Try.func48 (impl_areItems_c1.ls N) rfl rfl ?_
  intro ds R k y h
  cases ds with
  | nil => exact none_some h
  | cons d0 ds =>
  cases ds with
  | cons _ _ => exact none_some h
  | nil =>
  have h0 : (castDm (.sl 2 (.int .i64)) .imm d0 fun x0 => bindO (impl_areItems_c1 N x0) fun r => k [⟨.bool, .imm, r⟩] []) = some y := h
  clear h
  obtain ⟨x0, rfl, h1⟩ := castDm_eq h0
  exact con_fin (impl_areItems_c1.b N x0) h1
theorem impl_areItems_c1.det (N : Nat) : ConDet (impl_areItems_c1.con N) := by
  intro ds R k y h
  cases ds with
  | nil => exact none_some h
  | cons d0 ds =>
  cases ds with
  | cons _ _ => exact none_some h
  | nil =>
  have h0 : (castDm (.sl 2 (.int .i64)) .imm d0 fun x0 => bindO (impl_areItems_c1 N x0) fun r => k [⟨.bool, .imm, r⟩] []) = some y := h
  clear h
  obtain ⟨x0, rfl, h1⟩ := castDm_eq h0
  obtain ⟨r, e, h⟩ := bindO_some h1
  refine ⟨_, _, h, fun k' => ?_⟩
  show (castDm (.sl 2 (.int .i64)) .imm (⟨(.sl 2 (.int .i64)), .imm, x0⟩ : Dy) fun x0 => bindO (impl_areItems_c1 N x0) fun r => k' [⟨.bool, .imm, r⟩] []) = _
  simp only [castDm_self]
  rw [e]
  rfl
def slices_IndexFunc_S_Sint64__Sint64__impl_areItems_c1.sk2 : Skel := ⟨[.pv (.sl 26 (.sl 2 (.int .i64))), .fn 48 [], .dead, .dead, .dead, .dead, .dead, .pv (.int .i64), .pv (.int .i64), .dead, .dead, .dead, .dead, .dead, .dead, .dead, .dead, .dead, .dead], []⟩
def slices_IndexFunc_S_Sint64__Sint64__impl_areItems_c1.xs2 : List XS := [⟨.exit 0, [], ⟨[.dead, .dead, .dead, .dead, .dead, .dead, .dead, .dead, .dead, .dead, .dead, .dead, .dead, .dead, .dead, .dead, .dead, .dead, .dead], []⟩⟩, ⟨.ret, [4], ⟨[.dead, .dead, .dead, .dead, .pv (.int .i64), .dead, .dead, .dead, .dead, .dead, .dead, .dead, .dead, .dead, .dead, .dead, .dead, .dead, .dead], []⟩⟩]
noncomputable def slices_IndexFunc_S_Sint64__Sint64__impl_areItems_c1.con (N : Nat) : Con := { modes := [.v], ptrs := [false], fn := fun ds k => match ds with | [d0] => castDm (.sl 26 (.sl 2 (.int .i64))) .imm d0 fun x0 => bindO (slices_IndexFunc_S_Sint64__Sint64__impl_areItems_c1 N x0) fun r => k [⟨(.int .i64), .imm, r⟩] [] | _ => none }
noncomputable def slices_IndexFunc_S_Sint64__Sint64__impl_areItems_c1.cfg (N : Nat) : Cfg := { ty := tys, keep := [16], flt := [], elm := [(22, (.own .imm)), (23, (.own (.own .imm))), (24, (.pr (.own (.own .imm)) .imm)), (25, (.pr (.own (.own .imm)) .imm)), (26, (.own .imm)), (27, (.pr (.own .imm) .imm)), (28, (.pr (.own .imm) .imm)), (31, (.pr (.pr (.own .imm) .imm) .imm)), (32, (.pr (.pr (.own .imm) .imm) .imm)), (45, (.pr (.pr (.own .imm) .imm) (.pr (.own .imm) .imm))), (46, (.pr (.pr (.own .imm) .imm) (.pr (.own .imm) .imm))), (54, (.pr (.own .imm) .imm)), (55, (.pr (.own .imm) .imm))], live := [(2, [0, 1, 7, 8])], ord := [], con := [((48, [.one]), impl_areItems_c1.con N)], loops := [(2, loopCon N slices_IndexFunc_S_Sint64__Sint64__impl_areItems_c1.sk2 slices_IndexFunc_S_Sint64__Sint64__impl_areItems_c1.xs2 (fun {R} => slices_IndexFunc_S_Sint64__Sint64__impl_areItems_c1.l2 (R := R) N))], joins := [] }
theorem slices_IndexFunc_S_Sint64__Sint64__impl_areItems_c1.cons (N : Nat) : ConsOk Try.prog (slices_IndexFunc_S_Sint64__Sint64__impl_areItems_c1.cfg N).con := (consOk_cons (hb48) (impl_areItems_c1.ok N) (impl_areItems_c1.det N) consOk_nil)
theorem slices_IndexFunc_S_Sint64__Sint64__impl_areItems_c1.h2 {R : Type} (N : Nat) (d : slices_IndexFunc_S_Sint64__Sint64__impl_areItems_c1.sk2.D) (kn : slices_IndexFunc_S_Sint64__Sint64__impl_areItems_c1.sk2.D → Option R) (kx : XD slices_IndexFunc_S_Sint64__Sint64__impl_areItems_c1.xs2 → Option R) : roundK (slices_IndexFunc_S_Sint64__Sint64__impl_areItems_c1.cfg N) N (nthLoop (fnBody Try.f54) 0) slices_IndexFunc_S_Sint64__Sint64__impl_areItems_c1.sk2 slices_IndexFunc_S_Sint64__Sint64__impl_areItems_c1.xs2 d kn kx = slices_IndexFunc_S_Sint64__Sint64__impl_areItems_c1.l2 N d kn kx := by kernel_rfl
theorem slices_IndexFunc_S_Sint64__Sint64__impl_areItems_c1.i2 (N : Nat) : LoopsOk Try.prog (slices_IndexFunc_S_Sint64__Sint64__impl_areItems_c1.cfg N) (nthLoop (fnBody Try.f54) 0) := loopsL (l := []) (by kernel_rfl) trivial
theorem slices_IndexFunc_S_Sint64__Sint64__impl_areItems_c1.o2 (N : Nat) : LoopOk Try.prog (nthLoop (fnBody Try.f54) 0) (loopCon N slices_IndexFunc_S_Sint64__Sint64__impl_areItems_c1.sk2 slices_IndexFunc_S_Sint64__Sint64__impl_areItems_c1.xs2 (fun {R} => slices_IndexFunc_S_Sint64__Sint64__impl_areItems_c1.l2 (R := R) N)) := loop_ok (g := slices_IndexFunc_S_Sint64__Sint64__impl_areItems_c1.cfg N) tys_ok (slices_IndexFunc_S_Sint64__Sint64__impl_areItems_c1.cons N) mixed (slices_IndexFunc_S_Sint64__Sint64__impl_areItems_c1.i2 N) (fun d kn kx => slices_IndexFunc_S_Sint64__Sint64__impl_areItems_c1.h2 N d kn kx)
theorem slices_IndexFunc_S_Sint64__Sint64__impl_areItems_c1.ls (N : Nat) : LoopsOk Try.prog (slices_IndexFunc_S_Sint64__Sint64__impl_areItems_c1.cfg N) (fnBody Try.f54) := loopsL (l := [nthLoop (fnBody Try.f54) 0]) (by kernel_rfl) ⟨loopOne (L0 := loopCon N slices_IndexFunc_S_Sint64__Sint64__impl_areItems_c1.sk2 slices_IndexFunc_S_Sint64__Sint64__impl_areItems_c1.xs2 (fun {R} => slices_IndexFunc_S_Sint64__Sint64__impl_areItems_c1.l2 (R := R) N)) (id := 2) (by kernel_rfl) (by kernel_rfl) (slices_IndexFunc_S_Sint64__Sint64__impl_areItems_c1.o2 N), trivial⟩
theorem slices_IndexFunc_S_Sint64__Sint64__impl_areItems_c1.q2 {R R' : Type} {N n : Nat} {d} {k} {g : R → Option R'} : bindF (loopP (slices_IndexFunc_S_Sint64__Sint64__impl_areItems_c1.l2 N) n d k) g = loopP (slices_IndexFunc_S_Sint64__Sint64__impl_areItems_c1.l2 N) n d fun e => bindF (k e) g := bindF_loopP (fun d kn kx => by simp only [slices_IndexFunc_S_Sint64__Sint64__impl_areItems_c1.l2, bindF_ifB, bindF_bindO, bindF_pure, bindF_none, bindF_onSum]) n d k
theorem slices_IndexFunc_S_Sint64__Sint64__impl_areItems_c1.b (N : Nat) (x0 : den (.sl 26 (.sl 2 (.int .i64)))) : body (slices_IndexFunc_S_Sint64__Sint64__impl_areItems_c1.cfg N) N Try.f54 [.one, .fn 48 0] [.v] [(false, .imm)] [⟨(.sl 26 (.sl 2 (.int .i64))), .imm, x0⟩] (fun r i => some (r, i)) = bindO (slices_IndexFunc_S_Sint64__Sint64__impl_areItems_c1 N x0) fun r => some ([⟨(.int .i64), .imm, r⟩], []) := by
  show _ = bindF _ _
  conv => rhs; simp only [slices_IndexFunc_S_Sint64__Sint64__impl_areItems_c1, bindF_ifB, bindF_bindO, bindF_pure, bindF_none, bindF_onSum, slices_IndexFunc_S_Sint64__Sint64__impl_areItems_c1.q2]
  kernel_rfl
theorem slices_IndexFunc_S_Sint64__Sint64__impl_areItems_c1.ok (N : Nat) : ConOk Try.prog 54 [.one, .fn 48 0] (slices_IndexFunc_S_Sint64__Sint64__impl_areItems_c1.con N) := by
  refine conOk_mk (g := slices_IndexFunc_S_Sint64__Sint64__impl_areItems_c1.cfg N) (N := N) (res := [(false, .imm)]) tys_ok (slices_IndexFunc_S_Sint64__Sint64__impl_areItems_c1.cons N) mixed Try.func54 (slices_IndexFunc_S_Sint64__Sint64__impl_areItems_c1.ls N) rfl rfl ?_
  intro ds R k y h
  cases ds with
  | nil => exact none_some h
  | cons d0 ds =>
  cases ds with
  | cons _ _ => exact none_some h
  | nil =>
  have h0 : (castDm (.sl 26 (.sl 2 (.int .i64))) .imm d0 fun x0 => bindO (slices_IndexFunc_S_Sint64__Sint64__impl_areItems_c1 N x0) fun r => k [⟨(.int .i64), .imm, r⟩] []) = some y := h
  clear h
  obtain ⟨x0, rfl, h1⟩ := castDm_eq h0
  exact con_fin (slices_IndexFunc_S_Sint64__Sint64__impl_areItems_c1.b N x0) h1
theorem slices_IndexFunc_S_Sint64__Sint64__impl_areItems_c1.det (N : Nat) : ConDet (slices_IndexFunc_S_Sint64__Sint64__impl_areItems_c1.con N) := by
  intro ds R k y h
  cases ds with
  | nil => exact none_some h
  | cons d0 ds =>
  cases ds with
  | cons _ _ => exact none_some h
  | nil =>
  have h0 : (castDm (.sl 26 (.sl 2 (.int .i64))) .imm d0 fun x0 => bindO (slices_IndexFunc_S_Sint64__Sint64__impl_areItems_c1 N x0) fun r => k [⟨(.int .i64), .imm, r⟩] []) = some y := h
  clear h
  obtain ⟨x0, rfl, h1⟩ := castDm_eq h0
  obtain ⟨r, e, h⟩ := bindO_some h1
  refine ⟨_, _, h, fun k' => ?_⟩
  show (castDm (.sl 26 (.sl 2 (.int .i64))) .imm (⟨(.sl 26 (.sl 2 (.int .i64))), .imm, x0⟩ : Dy) fun x0 => bindO (slices_IndexFunc_S_Sint64__Sint64__impl_areItems_c1 N x0) fun r => k' [⟨(.int .i64), .imm, r⟩] []) = _
  simp only [castDm_self]
  rw [e]
  rfl
noncomputable def slices_ContainsFunc_S_Sint64__Sint64__impl_areItems_c1.con (N : Nat) : Con := { modes := [.v], ptrs := [false], fn := fun ds k => match ds with | [d0] => castDm (.sl 26 (.sl 2 (.int .i64))) .imm d0 fun x0 => bindO (slices_ContainsFunc_S_Sint64__Sint64__impl_areItems_c1 N x0) fun r => k [⟨.bool, .imm, r⟩] [] | _ => none }
noncomputable def slices_ContainsFunc_S_Sint64__Sint64__impl_areItems_c1.cfg (N : Nat) : Cfg := { ty := tys, keep := [7], flt := [], elm := [(22, (.own .imm)), (23, (.own (.own .imm))), (24, (.pr (.own (.own .imm)) .imm)), (25, (.pr (.own (.own .imm)) .imm)), (26, (.own .imm)), (27, (.pr (.own .imm) .imm)), (28, (.pr (.own .imm) .imm)), (31, (.pr (.pr (.own .imm) .imm) .imm)), (32, (.pr (.pr (.own .imm) .imm) .imm)), (45, (.pr (.pr (.own .imm) .imm) (.pr (.own .imm) .imm))), (46, (.pr (.pr (.own .imm) .imm) (.pr (.own .imm) .imm))), (54, (.pr (.own .imm) .imm)), (55, (.pr (.own .imm) .imm))], live := [], ord := [], con := [((54, [.one, .fn 48 0]), slices_IndexFunc_S_Sint64__Sint64__impl_areItems_c1.con N)], loops := [], joins := [] }
theorem slices_ContainsFunc_S_Sint64__Sint64__impl_areItems_c1.cons (N : Nat) : ConsOk Try.prog (slices_ContainsFunc_S_Sint64__Sint64__impl_areItems_c1.cfg N).con := (consOk_cons (hb54) (slices_IndexFunc_S_Sint64__Sint64__impl_areItems_c1.ok N) (slices_IndexFunc_S_Sint64__Sint64__impl_areItems_c1.det N) consOk_nil)
theorem slices_ContainsFunc_S_Sint64__Sint64__impl_areItems_c1.ls (N : Nat) : LoopsOk Try.prog (slices_ContainsFunc_S_Sint64__Sint64__impl_areItems_c1.cfg N) (fnBody Try.f47) := loopsL (l := []) (by kernel_rfl) trivial
theorem slices_ContainsFunc_S_Sint64__Sint64__impl_areItems_c1.b (N : Nat) (x0 : den (.sl 26 (.sl 2 (.int .i64)))) : body (slices_ContainsFunc_S_Sint64__Sint64__impl_areItems_c1.cfg N) N Try.f47 [.one, .fn 48 0] [.v] [(false, .imm)] [⟨(.sl 26 (.sl 2 (.int .i64))), .imm, x0⟩] (fun r i => some (r, i)) = bindO (slices_ContainsFunc_S_Sint64__Sint64__impl_areItems_c1 N x0) fun r => some ([⟨.bool, .imm, r⟩], []) := by
  show _ = bindF _ _
  conv => rhs; simp only [slices_ContainsFunc_S_Sint64__Sint64__impl_areItems_c1, bindF_ifB, bindF_bindO, bindF_pure, bindF_none, bindF_onSum]
  kernel_rfl
theorem slices_ContainsFunc_S_Sint64__Sint64__impl_areItems_c1.ok (N : Nat) : ConOk Try.prog 47 [.one, .fn 48 0] (slices_ContainsFunc_S_Sint64__Sint64__impl_areItems_c1.con N) := by
  refine conOk_mk (g := slices_ContainsFunc_S_Sint64__Sint64__impl_areItems_c1.cfg N) (N := N) (res := [(false, .imm)]) tys_ok (slices_ContainsFunc_S_Sint64__Sint64__impl_areItems_c1.cons N) mixed Try.func47 (slices_ContainsFunc_S_Sint64__Sint64__impl_areItems_c1.ls N) rfl rfl ?_
  intro ds R k y h
  cases ds with
  | nil => exact none_some h
  | cons d0 ds =>
  cases ds with
  | cons _ _ => exact none_some h
  | nil =>
  have h0 : (castDm (.sl 26 (.sl 2 (.int .i64))) .imm d0 fun x0 => bindO (slices_ContainsFunc_S_Sint64__Sint64__impl_areItems_c1 N x0) fun r => k [⟨.bool, .imm, r⟩] []) = some y := h
  clear h
  obtain ⟨x0, rfl, h1⟩ := castDm_eq h0
  exact con_fin (slices_ContainsFunc_S_Sint64__Sint64__impl_areItems_c1.b N x0) h1
theorem slices_ContainsFunc_S_Sint64__Sint64__impl_areItems_c1.det (N : Nat) : ConDet (slices_ContainsFunc_S_Sint64__Sint64__impl_areItems_c1.con N) := by
  intro ds R k y h
  cases ds with
  | nil => exact none_some h
  | cons d0 ds =>
  cases ds with
  | cons _ _ => exact none_some h
  | nil =>
  have h0 : (castDm (.sl 26 (.sl 2 (.int .i64))) .imm d0 fun x0 => bindO (slices_ContainsFunc_S_Sint64__Sint64__impl_areItems_c1 N x0) fun r => k [⟨.bool, .imm, r⟩] []) = some y := h
  clear h
  obtain ⟨x0, rfl, h1⟩ := castDm_eq h0
  obtain ⟨r, e, h⟩ := bindO_some h1
  refine ⟨_, _, h, fun k' => ?_⟩
  show (castDm (.sl 26 (.sl 2 (.int .i64))) .imm (⟨(.sl 26 (.sl 2 (.int .i64))), .imm, x0⟩ : Dy) fun x0 => bindO (slices_ContainsFunc_S_Sint64__Sint64__impl_areItems_c1 N x0) fun r => k' [⟨.bool, .imm, r⟩] []) = _
  simp only [castDm_self]
  rw [e]
  rfl
noncomputable def impl_areItems.con (N : Nat) : Con := { modes := [.v], ptrs := [false], fn := fun ds k => match ds with | [d0] => castDm (.sl 26 (.sl 2 (.int .i64))) .imm d0 fun x0 => bindO (impl_areItems N x0) fun r => k [⟨.bool, .imm, r⟩] [] | _ => none }
noncomputable def impl_areItems.cfg (N : Nat) : Cfg := { ty := tys, keep := [4], flt := [], elm := [(22, (.own .imm)), (23, (.own (.own .imm))), (24, (.pr (.own (.own .imm)) .imm)), (25, (.pr (.own (.own .imm)) .imm)), (26, (.own .imm)), (27, (.pr (.own .imm) .imm)), (28, (.pr (.own .imm) .imm)), (31, (.pr (.pr (.own .imm) .imm) .imm)), (32, (.pr (.pr (.own .imm) .imm) .imm)), (45, (.pr (.pr (.own .imm) .imm) (.pr (.own .imm) .imm))), (46, (.pr (.pr (.own .imm) .imm) (.pr (.own .imm) .imm))), (54, (.pr (.own .imm) .imm)), (55, (.pr (.own .imm) .imm))], live := [], ord := [], con := [((47, [.one, .fn 48 0]), slices_ContainsFunc_S_Sint64__Sint64__impl_areItems_c1.con N)], loops := [], joins := [] }
theorem impl_areItems.cons (N : Nat) : ConsOk Try.prog (impl_areItems.cfg N).con := (consOk_cons (hb47) (slices_ContainsFunc_S_Sint64__Sint64__impl_areItems_c1.ok N) (slices_ContainsFunc_S_Sint64__Sint64__impl_areItems_c1.det N) consOk_nil)
theorem impl_areItems.ls (N : Nat) : LoopsOk Try.prog (impl_areItems.cfg N) (fnBody Try.f37) := loopsL (l := []) (by kernel_rfl) trivial
theorem impl_areItems.b (N : Nat) (x0 : den (.sl 26 (.sl 2 (.int .i64)))) : body (impl_areItems.cfg N) N Try.f37 [.one] [.v] [(false, .imm)] [⟨(.sl 26 (.sl 2 (.int .i64))), .imm, x0⟩] (fun r i => some (r, i)) = bindO (impl_areItems N x0) fun r => some ([⟨.bool, .imm, r⟩], []) := by
  show _ = bindF _ _
  conv => rhs; simp only [impl_areItems, bindF_ifB, bindF_bindO, bindF_pure, bindF_none, bindF_onSum]
  kernel_rfl
theorem impl_areItems.ok (N : Nat) : ConOk Try.prog 37 [.one] (impl_areItems.con N) := by
  refine conOk_mk (g := impl_areItems.cfg N) (N := N) (res := [(false, .imm)]) tys_ok (impl_areItems.cons N) mixed Try.func37 (impl_areItems.ls N) rfl rfl ?_
  intro ds R k y h
  cases ds with
  | nil => exact none_some h
  | cons d0 ds =>
  cases ds with
  | cons _ _ => exact none_some h
  | nil =>
  have h0 : (castDm (.sl 26 (.sl 2 (.int .i64))) .imm d0 fun x0 => bindO (impl_areItems N x0) fun r => k [⟨.bool, .imm, r⟩] []) = some y := h
  clear h
  obtain ⟨x0, rfl, h1⟩ := castDm_eq h0
  exact con_fin (impl_areItems.b N x0) h1
theorem impl_areItems.det (N : Nat) : ConDet (impl_areItems.con N) := by
  intro ds R k y h
  cases ds with
  | nil => exact none_some h
  | cons d0 ds =>
  cases ds with
  | cons _ _ => exact none_some h
  | nil =>
  have h0 : (castDm (.sl 26 (.sl 2 (.int .i64))) .imm d0 fun x0 => bindO (impl_areItems N x0) fun r => k [⟨.bool, .imm, r⟩] []) = some y := h
  clear h
  obtain ⟨x0, rfl, h1⟩ := castDm_eq h0
  obtain ⟨r, e, h⟩ := bindO_some h1
  refine ⟨_, _, h, fun k' => ?_⟩
  show (castDm (.sl 26 (.sl 2 (.int .i64))) .imm (⟨(.sl 26 (.sl 2 (.int .i64))), .imm, x0⟩ : Dy) fun x0 => bindO (impl_areItems N x0) fun r => k' [⟨.bool, .imm, r⟩] []) = _
  simp only [castDm_self]
  rw [e]
  rfl
noncomputable def impl_size_SSint64.con (N : Nat) : Con := { modes := [.v], ptrs := [false], fn := fun ds k => match ds with | [d0] => castDm (.sl 26 (.sl 2 (.int .i64))) .imm d0 fun x0 => bindO (impl_size_SSint64 N x0) fun r => k [⟨(.int .i64), .imm, r⟩] [] | _ => none }
noncomputable def impl_size_SSint64.cfg (N : Nat) : Cfg := { ty := tys, keep := [], flt := [], elm := [(22, (.own .imm)), (23, (.own (.own .imm))), (24, (.pr (.own (.own .imm)) .imm)), (25, (.pr (.own (.own .imm)) .imm)), (26, (.own .imm)), (27, (.pr (.own .imm) .imm)), (28, (.pr (.own .imm) .imm)), (31, (.pr (.pr (.own .imm) .imm) .imm)), (32, (.pr (.pr (.own .imm) .imm) .imm)), (45, (.pr (.pr (.own .imm) .imm) (.pr (.own .imm) .imm))), (46, (.pr (.pr (.own .imm) .imm) (.pr (.own .imm) .imm))), (54, (.pr (.own .imm) .imm)), (55, (.pr (.own .imm) .imm))], live := [], ord := [], con := [], loops := [], joins := [] }
theorem impl_size_SSint64.cons (N : Nat) : ConsOk Try.prog (impl_size_SSint64.cfg N).con := consOk_nil
theorem impl_size_SSint64.ls (N : Nat) : LoopsOk Try.prog (impl_size_SSint64.cfg N) (fnBody Try.f24) := loopsL (l := []) (by kernel_rfl) trivial
theorem impl_size_SSint64.b (N : Nat) (x0 : den (.sl 26 (.sl 2 (.int .i64)))) : body (impl_size_SSint64.cfg N) N Try.f24 [.one] [.v] [(false, .imm)] [⟨(.sl 26 (.sl 2 (.int .i64))), .imm, x0⟩] (fun r i => some (r, i)) = bindO (impl_size_SSint64 N x0) fun r => some ([⟨(.int .i64), .imm, r⟩], []) := by
  show _ = bindF _ _
  conv => rhs; simp only [impl_size_SSint64, bindF_ifB, bindF_bindO, bindF_pure, bindF_none, bindF_onSum]
  kernel_rfl
theorem impl_size_SSint64.ok (N : Nat) : ConOk Try.prog 24 [.one] (impl_size_SSint64.con N) := by
  refine conOk_mk (g := impl_size_SSint64.cfg N) (N := N) (res := [(false, .imm)]) tys_ok (impl_size_SSint64.cons N) mixed Try.func24 (impl_size_SSint64.ls N) rfl rfl ?_
  intro ds R k y h
  cases ds with
  | nil => exact none_some h
  | cons d0 ds =>
  cases ds with
  | cons _ _ => exact none_some h
  | nil =>
  have h0 : (castDm (.sl 26 (.sl 2 (.int .i64))) .imm d0 fun x0 => bindO (impl_size_SSint64 N x0) fun r => k [⟨(.int .i64), .imm, r⟩] []) = some y := h
  clear h
  obtain ⟨x0, rfl, h1⟩ := castDm_eq h0
  exact con_fin (impl_size_SSint64.b N x0) h1
theorem impl_size_SSint64.det (N : Nat) : ConDet (impl_size_SSint64.con N) := by
  intro ds R k y h
  cases ds with
  | nil => exact none_some h
  | cons d0 ds =>
  cases ds with
  | cons _ _ => exact none_some h
  | nil =>
  have h0 : (castDm (.sl 26 (.sl 2 (.int .i64))) .imm d0 fun x0 => bindO (impl_size_SSint64 N x0) fun r => k [⟨(.int .i64), .imm, r⟩] []) = some y := h
  clear h
  obtain ⟨x0, rfl, h1⟩ := castDm_eq h0
  obtain ⟨r, e, h⟩ := bindO_some h1
  refine ⟨_, _, h, fun k' => ?_⟩
  show (castDm (.sl 26 (.sl 2 (.int .i64))) .imm (⟨(.sl 26 (.sl 2 (.int .i64))), .imm, x0⟩ : Dy) fun x0 => bindO (impl_size_SSint64 N x0) fun r => k' [⟨(.int .i64), .imm, r⟩] []) = _
  simp only [castDm_self]
  rw [e]
  rfl
noncomputable def impl_RingRight.con (N : Nat) : Con := { modes := [.v], ptrs := [false], fn := fun ds k => match ds with | [d0] => castDm (.pair (.sl 26 (.sl 2 (.int .i64))) (.pair (.int .i64) .unit)) .imm d0 fun x0 => bindO (impl_RingRight N x0) fun r => k [⟨.bool, .imm, r⟩] [] | _ => none }
noncomputable def impl_RingRight.cfg (N : Nat) : Cfg := { ty := tys, keep := [10, 17, 20], flt := [], elm := [(22, (.own .imm)), (23, (.own (.own .imm))), (24, (.pr (.own (.own .imm)) .imm)), (25, (.pr (.own (.own .imm)) .imm)), (26, (.own .imm)), (27, (.pr (.own .imm) .imm)), (28, (.pr (.own .imm) .imm)), (31, (.pr (.pr (.own .imm) .imm) .imm)), (32, (.pr (.pr (.own .imm) .imm) .imm)), (45, (.pr (.pr (.own .imm) .imm) (.pr (.own .imm) .imm))), (46, (.pr (.pr (.own .imm) .imm) (.pr (.own .imm) .imm))), (54, (.pr (.own .imm) .imm)), (55, (.pr (.own .imm) .imm))], live := [], ord := [(1, [0, 1, 2, 3, 4, 5, 6, 7, 8, 9, 10, 11, 12, 13, 14, 15, 16, 17, 18, 19])], con := [((37, [.one]), impl_areItems.con N), ((24, [.one]), impl_size_SSint64.con N), ((38, [.one, .one, .one]), impl_within.con N)], loops := [], joins := [] }
theorem impl_RingRight.cons (N : Nat) : ConsOk Try.prog (impl_RingRight.cfg N).con := (consOk_cons (hb37) (impl_areItems.ok N) (impl_areItems.det N) (consOk_cons (hb24) (impl_size_SSint64.ok N) (impl_size_SSint64.det N) (consOk_cons (hb38) (impl_within.ok N) (impl_within.det N) consOk_nil)))
theorem impl_RingRight.ls (N : Nat) : LoopsOk Try.prog (impl_RingRight.cfg N) (fnBody Try.f22) := loopsL (l := []) (by kernel_rfl) trivial
theorem impl_RingRight.b (N : Nat) (x0 : den (.pair (.sl 26 (.sl 2 (.int .i64))) (.pair (.int .i64) .unit))) : body (impl_RingRight.cfg N) N Try.f22 [.one] [.v] [(false, .imm)] [⟨(.pair (.sl 26 (.sl 2 (.int .i64))) (.pair (.int .i64) .unit)), .imm, x0⟩] (fun r i => some (r, i)) = bindO (impl_RingRight N x0) fun r => some ([⟨.bool, .imm, r⟩], []) := by
  show _ = bindF _ _
  conv => rhs; simp only [impl_RingRight, bindF_ifB, bindF_bindO, bindF_pure, bindF_none, bindF_onSum]
  kernel_rfl
theorem impl_RingRight.ok (N : Nat) : ConOk Try.prog 22 [.one] (impl_RingRight.con N) := by
  refine conOk_mk (g := impl_RingRight.cfg N) (N := N) (res := [(false, .imm)]) tys_ok (impl_RingRight.cons N) mixed Try.func22 (impl_RingRight.ls N) rfl rfl ?_
  intro ds R k y h
  cases ds with
  | nil => exact none_some h
  | cons d0 ds =>
  cases ds with
  | cons _ _ => exact none_some h
  | nil =>
  have h0 : (castDm (.pair (.sl 26 (.sl 2 (.int .i64))) (.pair (.int .i64) .unit)) .imm d0 fun x0 => bindO (impl_RingRight N x0) fun r => k [⟨.bool, .imm, r⟩] []) = some y := h
  clear h
  obtain ⟨x0, rfl, h1⟩ := castDm_eq h0
  exact con_fin (impl_RingRight.b N x0) h1
theorem impl_RingRight.det (N : Nat) : ConDet (impl_RingRight.con N) := by
  intro ds R k y h
  cases ds with
  | nil => exact none_some h
  | cons d0 ds =>
  cases ds with
  | cons _ _ => exact none_some h
  | nil =>
  have h0 : (castDm (.pair (.sl 26 (.sl 2 (.int .i64))) (.pair (.int .i64) .unit)) .imm d0 fun x0 => bindO (impl_RingRight N x0) fun r => k [⟨.bool, .imm, r⟩] []) = some y := h
  clear h
  obtain ⟨x0, rfl, h1⟩ := castDm_eq h0
  obtain ⟨r, e, h⟩ := bindO_some h1
  refine ⟨_, _, h, fun k' => ?_⟩
  show (castDm (.pair (.sl 26 (.sl 2 (.int .i64))) (.pair (.int .i64) .unit)) .imm (⟨(.pair (.sl 26 (.sl 2 (.int .i64))) (.pair (.int .i64) .unit)), .imm, x0⟩ : Dy) fun x0 => bindO (impl_RingRight N x0) fun r => k' [⟨.bool, .imm, r⟩] []) = _
  simp only [castDm_self]
  rw [e]
  rfl
noncomputable def impl_size_Sint64.con (N : Nat) : Con := { modes := [.v], ptrs := [false], fn := fun ds k => match ds with | [d0] => castDm (.sl 2 (.int .i64)) .imm d0 fun x0 => bindO (impl_size_Sint64 N x0) fun r => k [⟨(.int .i64), .imm, r⟩] [] | _ => none }
noncomputable def impl_size_Sint64.cfg (N : Nat) : Cfg := { ty := tys, keep := [], flt := [], elm := [(22, (.own .imm)), (23, (.own (.own .imm))), (24, (.pr (.own (.own .imm)) .imm)), (25, (.pr (.own (.own .imm)) .imm)), (26, (.own .imm)), (27, (.pr (.own .imm) .imm)), (28, (.pr (.own .imm) .imm)), (31, (.pr (.pr (.own .imm) .imm) .imm)), (32, (.pr (.pr (.own .imm) .imm) .imm)), (45, (.pr (.pr (.own .imm) .imm) (.pr (.own .imm) .imm))), (46, (.pr (.pr (.own .imm) .imm) (.pr (.own .imm) .imm))), (54, (.pr (.own .imm) .imm)), (55, (.pr (.own .imm) .imm))], live := [], ord := [], con := [], loops := [], joins := [] }
theorem impl_size_Sint64.cons (N : Nat) : ConsOk Try.prog (impl_size_Sint64.cfg N).con := consOk_nil
theorem impl_size_Sint64.ls (N : Nat) : LoopsOk Try.prog (impl_size_Sint64.cfg N) (fnBody Try.f21) := loopsL (l := []) (by kernel_rfl) trivial
theorem impl_size_Sint64.b (N : Nat) (x0 : den (.sl 2 (.int .i64))) : body (impl_size_Sint64.cfg N) N Try.f21 [.one] [.v] [(false, .imm)] [⟨(.sl 2 (.int .i64)), .imm, x0⟩] (fun r i => some (r, i)) = bindO (impl_size_Sint64 N x0) fun r => some ([⟨(.int .i64), .imm, r⟩], []) := by
  show _ = bindF _ _
  conv => rhs; simp only [impl_size_Sint64, bindF_ifB, bindF_bindO, bindF_pure, bindF_none, bindF_onSum]
  kernel_rfl
theorem impl_size_Sint64.ok (N : Nat) : ConOk Try.prog 21 [.one] (impl_size_Sint64.con N) := by
  refine conOk_mk (g := impl_size_Sint64.cfg N) (N := N) (res := [(false, .imm)]) tys_ok (impl_size_Sint64.cons N) mixed Try.func21 (impl_size_Sint64.ls N) rfl rfl ?_
  intro ds R k y h
  cases ds with
  | nil => exact none_some h
  | cons d0 ds =>
  cases ds with
  | cons _ _ => exact none_some h
  | nil =>
  have h0 : (castDm (.sl 2 (.int .i64)) .imm d0 fun x0 => bindO (impl_size_Sint64 N x0) fun r => k [⟨(.int .i64), .imm, r⟩] []) = some y := h
  clear h
  obtain ⟨x0, rfl, h1⟩ := castDm_eq h0
  exact con_fin (impl_size_Sint64.b N x0) h1
theorem impl_size_Sint64.det (N : Nat) : ConDet (impl_size_Sint64.con N) := by
  intro ds R k y h
  cases ds with
  | nil => exact none_some h
  | cons d0 ds =>
  cases ds with
  | cons _ _ => exact none_some h
  | nil =>
  have h0 : (castDm (.sl 2 (.int .i64)) .imm d0 fun x0 => bindO (impl_size_Sint64 N x0) fun r => k [⟨(.int .i64), .imm, r⟩] []) = some y := h
  clear h
  obtain ⟨x0, rfl, h1⟩ := castDm_eq h0
  obtain ⟨r, e, h⟩ := bindO_some h1
  refine ⟨_, _, h, fun k' => ?_⟩
  show (castDm (.sl 2 (.int .i64)) .imm (⟨(.sl 2 (.int .i64)), .imm, x0⟩ : Dy) fun x0 => bindO (impl_size_Sint64 N x0) fun r => k' [⟨(.int .i64), .imm, r⟩] []) = _
  simp only [castDm_self]
  rw [e]
  rfl
noncomputable def impl_Buf_isPlace.con (N : Nat) : Con := { modes := [.rd, .v], ptrs := [false], fn := fun ds k => match ds with | [d0, d1] => castDm (.pair (.sl 2 (.int .i64)) (.pair (.int .i64) (.pair (.int .i64) .unit))) .imm d0 fun x0 => castDm (.int .i64) .imm d1 fun x1 => bindO (impl_Buf_isPlace N x0 x1) fun r => k [⟨.bool, .imm, r⟩] [] | _ => none }
noncomputable def impl_Buf_isPlace.cfg (N : Nat) : Cfg := { ty := tys, keep := [10, 11], flt := [], elm := [(22, (.own .imm)), (23, (.own (.own .imm))), (24, (.pr (.own (.own .imm)) .imm)), (25, (.pr (.own (.own .imm)) .imm)), (26, (.own .imm)), (27, (.pr (.own .imm) .imm)), (28, (.pr (.own .imm) .imm)), (31, (.pr (.pr (.own .imm) .imm) .imm)), (32, (.pr (.pr (.own .imm) .imm) .imm)), (45, (.pr (.pr (.own .imm) .imm) (.pr (.own .imm) .imm))), (46, (.pr (.pr (.own .imm) .imm) (.pr (.own .imm) .imm))), (54, (.pr (.own .imm) .imm)), (55, (.pr (.own .imm) .imm))], live := [], ord := [], con := [((21, [.one]), impl_size_Sint64.con N), ((38, [.one, .one, .one]), impl_within.con N)], loops := [], joins := [] }
theorem impl_Buf_isPlace.cons (N : Nat) : ConsOk Try.prog (impl_Buf_isPlace.cfg N).con := (consOk_cons (hb21) (impl_size_Sint64.ok N) (impl_size_Sint64.det N) (consOk_cons (hb38) (impl_within.ok N) (impl_within.det N) consOk_nil))
theorem impl_Buf_isPlace.ls (N : Nat) : LoopsOk Try.prog (impl_Buf_isPlace.cfg N) (fnBody Try.f45) := loopsL (l := []) (by kernel_rfl) trivial
theorem impl_Buf_isPlace.b (N : Nat) (x0 : den (.pair (.sl 2 (.int .i64)) (.pair (.int .i64) (.pair (.int .i64) .unit)))) (x1 : den (.int .i64)) : body (impl_Buf_isPlace.cfg N) N Try.f45 [.one, .one] [.rd, .v] [(false, .imm)] [⟨(.pair (.sl 2 (.int .i64)) (.pair (.int .i64) (.pair (.int .i64) .unit))), .imm, x0⟩, ⟨(.int .i64), .imm, x1⟩] (fun r i => some (r, i)) = bindO (impl_Buf_isPlace N x0 x1) fun r => some ([⟨.bool, .imm, r⟩], []) := by
  show _ = bindF _ _
  conv => rhs; simp only [impl_Buf_isPlace, bindF_ifB, bindF_bindO, bindF_pure, bindF_none, bindF_onSum]
  kernel_rfl
theorem impl_Buf_isPlace.ok (N : Nat) : ConOk Try.prog 45 [.one, .one] (impl_Buf_isPlace.con N) := by
  refine conOk_mk (g := impl_Buf_isPlace.cfg N) (N := N) (res := [(false, .imm)]) tys_ok (impl_Buf_isPlace.cons N) mixed Try.func45 (impl_Buf_isPlace.ls N) rfl rfl ?_
  intro ds R k y h
  cases ds with
  | nil => exact none_some h
  | cons d0 ds =>
  cases ds with
  | nil => exact none_some h
  | cons d1 ds =>
  cases ds with
  | cons _ _ => exact none_some h
  | nil =>
  have h0 : (castDm (.pair (.sl 2 (.int .i64)) (.pair (.int .i64) (.pair (.int .i64) .unit))) .imm d0 fun x0 => castDm (.int .i64) .imm d1 fun x1 => bindO (impl_Buf_isPlace N x0 x1) fun r => k [⟨.bool, .imm, r⟩] []) = some y := h
  clear h
  obtain ⟨x0, rfl, h1⟩ := castDm_eq h0
  obtain ⟨x1, rfl, h2⟩ := castDm_eq h1
  exact con_fin (impl_Buf_isPlace.b N x0 x1) h2
theorem impl_Buf_isPlace.det (N : Nat) : ConDet (impl_Buf_isPlace.con N) := by
  intro ds R k y h
  cases ds with
  | nil => exact none_some h
  | cons d0 ds =>
  cases ds with
  | nil => exact none_some h
  | cons d1 ds =>
  cases ds with
  | cons _ _ => exact none_some h
  | nil =>
  have h0 : (castDm (.pair (.sl 2 (.int .i64)) (.pair (.int .i64) (.pair (.int .i64) .unit))) .imm d0 fun x0 => castDm (.int .i64) .imm d1 fun x1 => bindO (impl_Buf_isPlace N x0 x1) fun r => k [⟨.bool, .imm, r⟩] []) = some y := h
  clear h
  obtain ⟨x0, rfl, h1⟩ := castDm_eq h0
  obtain ⟨x1, rfl, h2⟩ := castDm_eq h1
  obtain ⟨r, e, h⟩ := bindO_some h2
  refine ⟨_, _, h, fun k' => ?_⟩
  show (castDm (.pair (.sl 2 (.int .i64)) (.pair (.int .i64) (.pair (.int .i64) .unit))) .imm (⟨(.pair (.sl 2 (.int .i64)) (.pair (.int .i64) (.pair (.int .i64) .unit))), .imm, x0⟩ : Dy) fun x0 => castDm (.int .i64) .imm (⟨(.int .i64), .imm, x1⟩ : Dy) fun x1 => bindO (impl_Buf_isPlace N x0 x1) fun r => k' [⟨.bool, .imm, r⟩] []) = _
  simp only [castDm_self]
  rw [e]
  rfl
noncomputable def impl_BufRight.con (N : Nat) : Con := { modes := [.v], ptrs := [false], fn := fun ds k => match ds with | [d0] => castDm (.pair (.sl 2 (.int .i64)) (.pair (.int .i64) (.pair (.int .i64) .unit))) .imm d0 fun x0 => bindO (impl_BufRight N x0) fun r => k [⟨.bool, .imm, r⟩] [] | _ => none }
noncomputable def impl_BufRight.cfg (N : Nat) : Cfg := { ty := tys, keep := [5, 9, 14], flt := [], elm := [(22, (.own .imm)), (23, (.own (.own .imm))), (24, (.pr (.own (.own .imm)) .imm)), (25, (.pr (.own (.own .imm)) .imm)), (26, (.own .imm)), (27, (.pr (.own .imm) .imm)), (28, (.pr (.own .imm) .imm)), (31, (.pr (.pr (.own .imm) .imm) .imm)), (32, (.pr (.pr (.own .imm) .imm) .imm)), (45, (.pr (.pr (.own .imm) .imm) (.pr (.own .imm) .imm))), (46, (.pr (.pr (.own .imm) .imm) (.pr (.own .imm) .imm))), (54, (.pr (.own .imm) .imm)), (55, (.pr (.own .imm) .imm))], live := [], ord := [], con := [((44, [.one]), impl_PointsRight.con N), ((45, [.one, .one]), impl_Buf_isPlace.con N)], loops := [], joins := [] }
theorem impl_BufRight.cons (N : Nat) : ConsOk Try.prog (impl_BufRight.cfg N).con := (consOk_cons (hb44) (impl_PointsRight.ok N) (impl_PointsRight.det N) (consOk_cons (hb45) (impl_Buf_isPlace.ok N) (impl_Buf_isPlace.det N) consOk_nil))
theorem impl_BufRight.ls (N : Nat) : LoopsOk Try.prog (impl_BufRight.cfg N) (fnBody Try.f34) := loopsL (l := []) (by kernel_rfl) trivial
theorem impl_BufRight.b (N : Nat) (x0 : den (.pair (.sl 2 (.int .i64)) (.pair (.int .i64) (.pair (.int .i64) .unit)))) : body (impl_BufRight.cfg N) N Try.f34 [.one] [.v] [(false, .imm)] [⟨(.pair (.sl 2 (.int .i64)) (.pair (.int .i64) (.pair (.int .i64) .unit))), .imm, x0⟩] (fun r i => some (r, i)) = bindO (impl_BufRight N x0) fun r => some ([⟨.bool, .imm, r⟩], []) := by
  show _ = bindF _ _
  conv => rhs; simp only [impl_BufRight, bindF_ifB, bindF_bindO, bindF_pure, bindF_none, bindF_onSum]
  kernel_rfl
theorem impl_BufRight.ok (N : Nat) : ConOk Try.prog 34 [.one] (impl_BufRight.con N) := by
  refine conOk_mk (g := impl_BufRight.cfg N) (N := N) (res := [(false, .imm)]) tys_ok (impl_BufRight.cons N) mixed Try.func34 (impl_BufRight.ls N) rfl rfl ?_
  intro ds R k y h
  cases ds with
  | nil => exact none_some h
  | cons d0 ds =>
  cases ds with
  | cons _ _ => exact none_some h
  | nil =>
  have h0 : (castDm (.pair (.sl 2 (.int .i64)) (.pair (.int .i64) (.pair (.int .i64) .unit))) .imm d0 fun x0 => bindO (impl_BufRight N x0) fun r => k [⟨.bool, .imm, r⟩] []) = some y := h
  clear h
  obtain ⟨x0, rfl, h1⟩ := castDm_eq h0
  exact con_fin (impl_BufRight.b N x0) h1
theorem impl_BufRight.det (N : Nat) : ConDet (impl_BufRight.con N) := by
  intro ds R k y h
  cases ds with
  | nil => exact none_some h
  | cons d0 ds =>
  cases ds with
  | cons _ _ => exact none_some h
  | nil =>
  have h0 : (castDm (.pair (.sl 2 (.int .i64)) (.pair (.int .i64) (.pair (.int .i64) .unit))) .imm d0 fun x0 => bindO (impl_BufRight N x0) fun r => k [⟨.bool, .imm, r⟩] []) = some y := h
  clear h
  obtain ⟨x0, rfl, h1⟩ := castDm_eq h0
  obtain ⟨r, e, h⟩ := bindO_some h1
  refine ⟨_, _, h, fun k' => ?_⟩
  show (castDm (.pair (.sl 2 (.int .i64)) (.pair (.int .i64) (.pair (.int .i64) .unit))) .imm (⟨(.pair (.sl 2 (.int .i64)) (.pair (.int .i64) (.pair (.int .i64) .unit))), .imm, x0⟩ : Dy) fun x0 => bindO (impl_BufRight N x0) fun r => k' [⟨.bool, .imm, r⟩] []) = _
  simp only [castDm_self]
  rw [e]
  rfl
noncomputable def impl_ringCode.con (N : Nat) : Con := { modes := [.v, .v], ptrs := [false], fn := fun ds k => match ds with | [d0, d1] => castDm (.pair (.sl 26 (.sl 2 (.int .i64))) (.pair (.int .i64) .unit)) .imm d0 fun x0 => castDm (.pair (.sl 2 (.int .i64)) (.pair (.int .i64) (.pair (.int .i64) .unit))) .imm d1 fun x1 => bindO (impl_ringCode N x0 x1) fun r => k [⟨(.int .i64), .imm, r⟩] [] | _ => none }
noncomputable def impl_ringCode.cfg (N : Nat) : Cfg := { ty := tys, keep := [7, 11], flt := [], elm := [(22, (.own .imm)), (23, (.own (.own .imm))), (24, (.pr (.own (.own .imm)) .imm)), (25, (.pr (.own (.own .imm)) .imm)), (26, (.own .imm)), (27, (.pr (.own .imm) .imm)), (28, (.pr (.own .imm) .imm)), (31, (.pr (.pr (.own .imm) .imm) .imm)), (32, (.pr (.pr (.own .imm) .imm) .imm)), (45, (.pr (.pr (.own .imm) .imm) (.pr (.own .imm) .imm))), (46, (.pr (.pr (.own .imm) .imm) (.pr (.own .imm) .imm))), (54, (.pr (.own .imm) .imm)), (55, (.pr (.own .imm) .imm))], live := [], ord := [], con := [((22, [.one]), impl_RingRight.con N), ((34, [.one]), impl_BufRight.con N)], loops := [], joins := [] }
theorem impl_ringCode.cons (N : Nat) : ConsOk Try.prog (impl_ringCode.cfg N).con := (consOk_cons (hb22) (impl_RingRight.ok N) (impl_RingRight.det N) (consOk_cons (hb34) (impl_BufRight.ok N) (impl_BufRight.det N) consOk_nil))
theorem impl_ringCode.ls (N : Nat) : LoopsOk Try.prog (impl_ringCode.cfg N) (fnBody Try.f19) := loopsL (l := []) (by kernel_rfl) trivial
theorem impl_ringCode.b (N : Nat) (x0 : den (.pair (.sl 26 (.sl 2 (.int .i64))) (.pair (.int .i64) .unit))) (x1 : den (.pair (.sl 2 (.int .i64)) (.pair (.int .i64) (.pair (.int .i64) .unit)))) : body (impl_ringCode.cfg N) N Try.f19 [.one, .one] [.v, .v] [(false, .imm)] [⟨(.pair (.sl 26 (.sl 2 (.int .i64))) (.pair (.int .i64) .unit)), .imm, x0⟩, ⟨(.pair (.sl 2 (.int .i64)) (.pair (.int .i64) (.pair (.int .i64) .unit))), .imm, x1⟩] (fun r i => some (r, i)) = bindO (impl_ringCode N x0 x1) fun r => some ([⟨(.int .i64), .imm, r⟩], []) := by
  show _ = bindF _ _
  conv => rhs; simp only [impl_ringCode, bindF_ifB, bindF_bindO, bindF_pure, bindF_none, bindF_onSum]
  kernel_rfl
theorem impl_ringCode.ok (N : Nat) : ConOk Try.prog 19 [.one, .one] (impl_ringCode.con N) := by
  refine conOk_mk (g := impl_ringCode.cfg N) (N := N) (res := [(false, .imm)]) tys_ok (impl_ringCode.cons N) mixed Try.func19 (impl_ringCode.ls N) rfl rfl ?_
  intro ds R k y h
  cases ds with
  | nil => exact none_some h
  | cons d0 ds =>
  cases ds with
  | nil => exact none_some h
  | cons d1 ds =>
  cases ds with
  | cons _ _ => exact none_some h
  | nil =>
  have h0 : (castDm (.pair (.sl 26 (.sl 2 (.int .i64))) (.pair (.int .i64) .unit)) .imm d0 fun x0 => castDm (.pair (.sl 2 (.int .i64)) (.pair (.int .i64) (.pair (.int .i64) .unit))) .imm d1 fun x1 => bindO (impl_ringCode N x0 x1) fun r => k [⟨(.int .i64), .imm, r⟩] []) = some y := h
  clear h
  obtain ⟨x0, rfl, h1⟩ := castDm_eq h0
  obtain ⟨x1, rfl, h2⟩ := castDm_eq h1
  exact con_fin (impl_ringCode.b N x0 x1) h2
theorem impl_ringCode.det (N : Nat) : ConDet (impl_ringCode.con N) := by
  intro ds R k y h
  cases ds with
  | nil => exact none_some h
  | cons d0 ds =>
  cases ds with
  | nil => exact none_some h
  | cons d1 ds =>
  cases ds with
  | cons _ _ => exact none_some h
  | nil =>
  have h0 : (castDm (.pair (.sl 26 (.sl 2 (.int .i64))) (.pair (.int .i64) .unit)) .imm d0 fun x0 => castDm (.pair (.sl 2 (.int .i64)) (.pair (.int .i64) (.pair (.int .i64) .unit))) .imm d1 fun x1 => bindO (impl_ringCode N x0 x1) fun r => k [⟨(.int .i64), .imm, r⟩] []) = some y := h
  clear h
  obtain ⟨x0, rfl, h1⟩ := castDm_eq h0
  obtain ⟨x1, rfl, h2⟩ := castDm_eq h1
  obtain ⟨r, e, h⟩ := bindO_some h2
  refine ⟨_, _, h, fun k' => ?_⟩
  show (castDm (.pair (.sl 26 (.sl 2 (.int .i64))) (.pair (.int .i64) .unit)) .imm (⟨(.pair (.sl 26 (.sl 2 (.int .i64))) (.pair (.int .i64) .unit)), .imm, x0⟩ : Dy) fun x0 => castDm (.pair (.sl 2 (.int .i64)) (.pair (.int .i64) (.pair (.int .i64) .unit))) .imm (⟨(.pair (.sl 2 (.int .i64)) (.pair (.int .i64) (.pair (.int .i64) .unit))), .imm, x1⟩ : Dy) fun x1 => bindO (impl_ringCode N x0 x1) fun r => k' [⟨(.int .i64), .imm, r⟩] []) = _
  simp only [castDm_self]
  rw [e]
  rfl
end Go.AE.F
