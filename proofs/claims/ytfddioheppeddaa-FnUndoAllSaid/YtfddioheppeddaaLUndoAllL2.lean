/- The printed functions are what the program comes to: contracts. -/
import Derived.Test.YtfddioheppeddaaLUndoAllL1
namespace Go.AE.F
open Go.AE Go.Proofs
set_option maxRecDepth 100000
def laws_lwAll.sk3 : Skel := ⟨[.pv (.sl 23 (.sl 2 (.int .i64))), .dead, .dead, .ov 50 [], .pv (.int .i64), .dead, .dead, .dead, .dead, .dead, .dead, .dead, .dead, .dead, .dead, .dead, .dead, .dead, .dead, .dead, .dead], [⟨50, (.sl 23 (.sl 2 (.int .i64))), (.own (.own .imm)), false, false⟩]⟩
def laws_lwAll.xs3 : List XS := [⟨.exit 0, [3], ⟨[.dead, .dead, .dead, .ov 50 [], .dead, .dead, .dead, .dead, .dead, .dead, .dead, .dead, .dead, .dead, .dead, .dead, .dead, .dead, .dead, .dead, .dead], [⟨50, (.sl 23 (.sl 2 (.int .i64))), (.own (.own .imm)), false, false⟩]⟩⟩]
noncomputable def laws_lwAll.con (N : Nat) : Con := { modes := [.v], ptrs := [false], fn := fun ds k => match ds with | [d0] => castDm (.sl 23 (.sl 2 (.int .i64))) .imm d0 fun x0 => bindO (laws_lwAll N x0) fun r => k [⟨(.sl 23 (.sl 2 (.int .i64))), (.own (.own .imm)), r⟩] [] | _ => none }
noncomputable def laws_lwAll.cfg (N : Nat) : Cfg := { ty := tys, keep := [17], flt := [], elm := [(22, (.own .imm)), (23, (.own .imm)), (24, (.pr (.own .imm) .imm)), (25, (.pr (.own .imm) .imm)), (26, (.own (.own .imm))), (29, (.own (.pr (.own .imm) .imm))), (30, (.pr (.own (.pr (.own .imm) .imm)) (.pr (.own (.pr (.own .imm) .imm)) .imm))), (31, (.pr (.own (.pr (.own .imm) .imm)) (.pr (.own (.pr (.own .imm) .imm)) .imm))), (32, (.pr (.pr (.own (.pr (.own .imm) .imm)) (.pr (.own (.pr (.own .imm) .imm)) .imm)) (.pr (.pr (.own .imm) .imm) .imm))), (33, (.pr (.pr (.own (.pr (.own .imm) .imm)) (.pr (.own (.pr (.own .imm) .imm)) .imm)) (.pr (.pr (.own .imm) .imm) .imm))), (44, (.pr (.own .imm) .imm)), (45, (.pr (.own .imm) .imm)), (52, (.pr (.pr (.own .imm) .imm) (.pr (.own .imm) .imm))), (53, (.pr (.pr (.own .imm) .imm) (.pr (.own .imm) .imm)))], live := [(3, [0, 3, 4])], ord := [], con := [((8, [.one]), laws_lwCopy.con N)], loops := [(3, loopCon N laws_lwAll.sk3 laws_lwAll.xs3 (fun {R} => laws_lwAll.l3 (R := R) N))], joins := [] }
theorem laws_lwAll.cons (N : Nat) : ConsOk Try.prog (laws_lwAll.cfg N).con := (consOk_cons (hb8) (laws_lwCopy.ok N) (laws_lwCopy.det N) consOk_nil)
theorem laws_lwAll.h3 {R : Type} (N : Nat) (d : laws_lwAll.sk3.D) (kn : laws_lwAll.sk3.D → Option R) (kx : XD laws_lwAll.xs3 → Option R) : roundK (laws_lwAll.cfg N) N (nthLoop (fnBody Try.f7) 0) laws_lwAll.sk3 laws_lwAll.xs3 d kn kx = laws_lwAll.l3 N d kn kx := by kernel_rfl
theorem laws_lwAll.i3 (N : Nat) : LoopsOk Try.prog (laws_lwAll.cfg N) (nthLoop (fnBody Try.f7) 0) := loopsL (l := []) (by kernel_rfl) trivial
theorem laws_lwAll.o3 (N : Nat) : LoopOk Try.prog (nthLoop (fnBody Try.f7) 0) (loopCon N laws_lwAll.sk3 laws_lwAll.xs3 (fun {R} => laws_lwAll.l3 (R := R) N)) := loop_ok (g := laws_lwAll.cfg N) tys_ok (laws_lwAll.cons N) mixed (laws_lwAll.i3 N) (fun d kn kx => laws_lwAll.h3 N d kn kx)
theorem laws_lwAll.ls (N : Nat) : LoopsOk Try.prog (laws_lwAll.cfg N) (fnBody Try.f7) := loopsL (l := [nthLoop (fnBody Try.f7) 0]) (by kernel_rfl) ⟨loopOne (L0 := loopCon N laws_lwAll.sk3 laws_lwAll.xs3 (fun {R} => laws_lwAll.l3 (R := R) N)) (id := 3) (by kernel_rfl) (by kernel_rfl) (laws_lwAll.o3 N), trivial⟩
theorem laws_lwAll.q3 {R R' : Type} {N n : Nat} {d} {k} {g : R → Option R'} : bindF (loopP (laws_lwAll.l3 N) n d k) g = loopP (laws_lwAll.l3 N) n d fun e => bindF (k e) g := bindF_loopP (fun d kn kx => by simp only [laws_lwAll.l3, bindF_ifB, bindF_bindO, bindF_pure, bindF_none, bindF_onSum]) n d k
theorem laws_lwAll.b (N : Nat) (x0 : den (.sl 23 (.sl 2 (.int .i64)))) : body (laws_lwAll.cfg N) N Try.f7 [.one] [.v] [(false, (.own (.own .imm)))] [⟨(.sl 23 (.sl 2 (.int .i64))), .imm, x0⟩] (fun r i => some (r, i)) = bindO (laws_lwAll N x0) fun r => some ([⟨(.sl 23 (.sl 2 (.int .i64))), (.own (.own .imm)), r⟩], []) := by
  show _ = bindF _ _
  conv => rhs; simp only [laws_lwAll, bindF_ifB, bindF_bindO, bindF_pure, bindF_none, bindF_onSum, laws_lwAll.q3]
  kernel_rfl
theorem laws_lwAll.ok (N : Nat) : ConOk Try.prog 7 [.one] (laws_lwAll.con N) := by
  refine conOk_mk (g := laws_lwAll.cfg N) (N := N) (res := [(false, (.own (.own .imm)))]) tys_ok (laws_lwAll.cons N) mixed Try.func7 (laws_lwAll.ls N) rfl rfl ?_
  intro ds R k y h
  cases ds with
  | nil => exact none_some h
  | cons d0 ds =>
  cases ds with
  | cons _ _ => exact none_some h
  | nil =>
  have h0 : (castDm (.sl 23 (.sl 2 (.int .i64))) .imm d0 fun x0 => bindO (laws_lwAll N x0) fun r => k [⟨(.sl 23 (.sl 2 (.int .i64))), (.own (.own .imm)), r⟩] []) = some y := h
  clear h
  obtain ⟨x0, rfl, h1⟩ := castDm_eq h0
  exact con_fin (laws_lwAll.b N x0) h1
theorem laws_lwAll.det (N : Nat) : ConDet (laws_lwAll.con N) := by
  intro ds R k y h
  cases ds with
  | nil => exact none_some h
  | cons d0 ds =>
  cases ds with
  | cons _ _ => exact none_some h
  | nil =>
  have h0 : (castDm (.sl 23 (.sl 2 (.int .i64))) .imm d0 fun x0 => bindO (laws_lwAll N x0) fun r => k [⟨(.sl 23 (.sl 2 (.int .i64))), (.own (.own .imm)), r⟩] []) = some y := h
  clear h
  obtain ⟨x0, rfl, h1⟩ := castDm_eq h0
  obtain ⟨r, e, h⟩ := bindO_some h1
  refine ⟨_, _, h, fun k' => ?_⟩
  show (castDm (.sl 23 (.sl 2 (.int .i64))) .imm (⟨(.sl 23 (.sl 2 (.int .i64))), .imm, x0⟩ : Dy) fun x0 => bindO (laws_lwAll N x0) fun r => k' [⟨(.sl 23 (.sl 2 (.int .i64))), (.own (.own .imm)), r⟩] []) = _
  simp only [castDm_self]
  rw [e]
  rfl
noncomputable def impl_isMany.con (N : Nat) : Con := { modes := [.v], ptrs := [false], fn := fun ds k => match ds with | [d0] => castDm (.int .i64) .imm d0 fun x0 => bindO (impl_isMany N x0) fun r => k [⟨.bool, .imm, r⟩] [] | _ => none }
noncomputable def impl_isMany.cfg (N : Nat) : Cfg := { ty := tys, keep := [], flt := [], elm := [(22, (.own .imm)), (23, (.own .imm)), (24, (.pr (.own .imm) .imm)), (25, (.pr (.own .imm) .imm)), (26, (.own (.own .imm))), (29, (.own (.pr (.own .imm) .imm))), (30, (.pr (.own (.pr (.own .imm) .imm)) (.pr (.own (.pr (.own .imm) .imm)) .imm))), (31, (.pr (.own (.pr (.own .imm) .imm)) (.pr (.own (.pr (.own .imm) .imm)) .imm))), (32, (.pr (.pr (.own (.pr (.own .imm) .imm)) (.pr (.own (.pr (.own .imm) .imm)) .imm)) (.pr (.pr (.own .imm) .imm) .imm))), (33, (.pr (.pr (.own (.pr (.own .imm) .imm)) (.pr (.own (.pr (.own .imm) .imm)) .imm)) (.pr (.pr (.own .imm) .imm) .imm))), (44, (.pr (.own .imm) .imm)), (45, (.pr (.own .imm) .imm)), (52, (.pr (.pr (.own .imm) .imm) (.pr (.own .imm) .imm))), (53, (.pr (.pr (.own .imm) .imm) (.pr (.own .imm) .imm)))], live := [], ord := [], con := [], loops := [], joins := [] }
theorem impl_isMany.cons (N : Nat) : ConsOk Try.prog (impl_isMany.cfg N).con := consOk_nil
theorem impl_isMany.ls (N : Nat) : LoopsOk Try.prog (impl_isMany.cfg N) (fnBody Try.f21) := loopsL (l := []) (by kernel_rfl) trivial
theorem impl_isMany.b (N : Nat) (x0 : den (.int .i64)) : body (impl_isMany.cfg N) N Try.f21 [.one] [.v] [(false, .imm)] [⟨(.int .i64), .imm, x0⟩] (fun r i => some (r, i)) = bindO (impl_isMany N x0) fun r => some ([⟨.bool, .imm, r⟩], []) := by
  show _ = bindF _ _
  conv => rhs; simp only [impl_isMany, bindF_ifB, bindF_bindO, bindF_pure, bindF_none, bindF_onSum]
  kernel_rfl
theorem impl_isMany.ok (N : Nat) : ConOk Try.prog 21 [.one] (impl_isMany.con N) := by
  refine conOk_mk (g := impl_isMany.cfg N) (N := N) (res := [(false, .imm)]) tys_ok (impl_isMany.cons N) mixed Try.func21 (impl_isMany.ls N) rfl rfl ?_
  intro ds R k y h
  cases ds with
  | nil => exact none_some h
  | cons d0 ds =>
  cases ds with
  | cons _ _ => exact none_some h
  | nil =>
  have h0 : (castDm (.int .i64) .imm d0 fun x0 => bindO (impl_isMany N x0) fun r => k [⟨.bool, .imm, r⟩] []) = some y := h
  clear h
  obtain ⟨x0, rfl, h1⟩ := castDm_eq h0
  exact con_fin (impl_isMany.b N x0) h1
theorem impl_isMany.det (N : Nat) : ConDet (impl_isMany.con N) := by
  intro ds R k y h
  cases ds with
  | nil => exact none_some h
  | cons d0 ds =>
  cases ds with
  | cons _ _ => exact none_some h
  | nil =>
  have h0 : (castDm (.int .i64) .imm d0 fun x0 => bindO (impl_isMany N x0) fun r => k [⟨.bool, .imm, r⟩] []) = some y := h
  clear h
  obtain ⟨x0, rfl, h1⟩ := castDm_eq h0
  obtain ⟨r, e, h⟩ := bindO_some h1
  refine ⟨_, _, h, fun k' => ?_⟩
  show (castDm (.int .i64) .imm (⟨(.int .i64), .imm, x0⟩ : Dy) fun x0 => bindO (impl_isMany N x0) fun r => k' [⟨.bool, .imm, r⟩] []) = _
  simp only [castDm_self]
  rw [e]
  rfl
noncomputable def impl_within.con (N : Nat) : Con := { modes := [.v, .v, .v], ptrs := [false], fn := fun ds k => match ds with | [d0, d1, d2] => castDm (.int .i64) .imm d0 fun x0 => castDm (.int .i64) .imm d1 fun x1 => castDm (.int .i64) .imm d2 fun x2 => bindO (impl_within N x0 x1 x2) fun r => k [⟨.bool, .imm, r⟩] [] | _ => none }
noncomputable def impl_within.cfg (N : Nat) : Cfg := { ty := tys, keep := [], flt := [], elm := [(22, (.own .imm)), (23, (.own .imm)), (24, (.pr (.own .imm) .imm)), (25, (.pr (.own .imm) .imm)), (26, (.own (.own .imm))), (29, (.own (.pr (.own .imm) .imm))), (30, (.pr (.own (.pr (.own .imm) .imm)) (.pr (.own (.pr (.own .imm) .imm)) .imm))), (31, (.pr (.own (.pr (.own .imm) .imm)) (.pr (.own (.pr (.own .imm) .imm)) .imm))), (32, (.pr (.pr (.own (.pr (.own .imm) .imm)) (.pr (.own (.pr (.own .imm) .imm)) .imm)) (.pr (.pr (.own .imm) .imm) .imm))), (33, (.pr (.pr (.own (.pr (.own .imm) .imm)) (.pr (.own (.pr (.own .imm) .imm)) .imm)) (.pr (.pr (.own .imm) .imm) .imm))), (44, (.pr (.own .imm) .imm)), (45, (.pr (.own .imm) .imm)), (52, (.pr (.pr (.own .imm) .imm) (.pr (.own .imm) .imm))), (53, (.pr (.pr (.own .imm) .imm) (.pr (.own .imm) .imm)))], live := [], ord := [], con := [], loops := [], joins := [] }
theorem impl_within.cons (N : Nat) : ConsOk Try.prog (impl_within.cfg N).con := consOk_nil
theorem impl_within.ls (N : Nat) : LoopsOk Try.prog (impl_within.cfg N) (fnBody Try.f54) := loopsL (l := []) (by kernel_rfl) trivial
theorem impl_within.b (N : Nat) (x0 : den (.int .i64)) (x1 : den (.int .i64)) (x2 : den (.int .i64)) : body (impl_within.cfg N) N Try.f54 [.one, .one, .one] [.v, .v, .v] [(false, .imm)] [⟨(.int .i64), .imm, x0⟩, ⟨(.int .i64), .imm, x1⟩, ⟨(.int .i64), .imm, x2⟩] (fun r i => some (r, i)) = bindO (impl_within N x0 x1 x2) fun r => some ([⟨.bool, .imm, r⟩], []) := by
  show _ = bindF _ _
  conv => rhs; simp only [impl_within, bindF_ifB, bindF_bindO, bindF_pure, bindF_none, bindF_onSum]
  kernel_rfl
theorem impl_within.ok (N : Nat) : ConOk Try.prog 54 [.one, .one, .one] (impl_within.con N) := by
  refine conOk_mk (g := impl_within.cfg N) (N := N) (res := [(false, .imm)]) tys_ok (impl_within.cons N) mixed Try.func54 (impl_within.ls N) rfl rfl ?_
  intro ds R k y h
  cases ds with
  | nil => exact none_some h
  | cons d0 ds =>
  cases ds with
  | nil => exact none_some h
  | cons d1 ds =>
  cases ds with
  | nil => exact none_some h
  | cons d2 ds =>
  cases ds with
  | cons _ _ => exact none_some h
  | nil =>
  have h0 : (castDm (.int .i64) .imm d0 fun x0 => castDm (.int .i64) .imm d1 fun x1 => castDm (.int .i64) .imm d2 fun x2 => bindO (impl_within N x0 x1 x2) fun r => k [⟨.bool, .imm, r⟩] []) = some y := h
  clear h
  obtain ⟨x0, rfl, h1⟩ := castDm_eq h0
  obtain ⟨x1, rfl, h2⟩ := castDm_eq h1
  obtain ⟨x2, rfl, h3⟩ := castDm_eq h2
  exact con_fin (impl_within.b N x0 x1 x2) h3
theorem impl_within.det (N : Nat) : ConDet (impl_within.con N) := by
  intro ds R k y h
  cases ds with
  | nil => exact none_some h
  | cons d0 ds =>
  cases ds with
  | nil => exact none_some h
  | cons d1 ds =>
  cases ds with
  | nil => exact none_some h
  | cons d2 ds =>
  cases ds with
  | cons _ _ => exact none_some h
  | nil =>
  have h0 : (castDm (.int .i64) .imm d0 fun x0 => castDm (.int .i64) .imm d1 fun x1 => castDm (.int .i64) .imm d2 fun x2 => bindO (impl_within N x0 x1 x2) fun r => k [⟨.bool, .imm, r⟩] []) = some y := h
  clear h
  obtain ⟨x0, rfl, h1⟩ := castDm_eq h0
  obtain ⟨x1, rfl, h2⟩ := castDm_eq h1
  obtain ⟨x2, rfl, h3⟩ := castDm_eq h2
  obtain ⟨r, e, h⟩ := bindO_some h3
  refine ⟨_, _, h, fun k' => ?_⟩
  show (castDm (.int .i64) .imm (⟨(.int .i64), .imm, x0⟩ : Dy) fun x0 => castDm (.int .i64) .imm (⟨(.int .i64), .imm, x1⟩ : Dy) fun x1 => castDm (.int .i64) .imm (⟨(.int .i64), .imm, x2⟩ : Dy) fun x2 => bindO (impl_within N x0 x1 x2) fun r => k' [⟨.bool, .imm, r⟩] []) = _
  simp only [castDm_self]
  rw [e]
  rfl
noncomputable def impl_isPoint.con (N : Nat) : Con := { modes := [.v], ptrs := [false], fn := fun ds k => match ds with | [d0] => castDm (.int .i64) .imm d0 fun x0 => bindO (impl_isPoint N x0) fun r => k [⟨.bool, .imm, r⟩] [] | _ => none }
noncomputable def impl_isPoint.cfg (N : Nat) : Cfg := { ty := tys, keep := [4, 7], flt := [], elm := [(22, (.own .imm)), (23, (.own .imm)), (24, (.pr (.own .imm) .imm)), (25, (.pr (.own .imm) .imm)), (26, (.own (.own .imm))), (29, (.own (.pr (.own .imm) .imm))), (30, (.pr (.own (.pr (.own .imm) .imm)) (.pr (.own (.pr (.own .imm) .imm)) .imm))), (31, (.pr (.own (.pr (.own .imm) .imm)) (.pr (.own (.pr (.own .imm) .imm)) .imm))), (32, (.pr (.pr (.own (.pr (.own .imm) .imm)) (.pr (.own (.pr (.own .imm) .imm)) .imm)) (.pr (.pr (.own .imm) .imm) .imm))), (33, (.pr (.pr (.own (.pr (.own .imm) .imm)) (.pr (.own (.pr (.own .imm) .imm)) .imm)) (.pr (.pr (.own .imm) .imm) .imm))), (44, (.pr (.own .imm) .imm)), (45, (.pr (.own .imm) .imm)), (52, (.pr (.pr (.own .imm) .imm) (.pr (.own .imm) .imm))), (53, (.pr (.pr (.own .imm) .imm) (.pr (.own .imm) .imm)))], live := [], ord := [], con := [((54, [.one, .one, .one]), impl_within.con N)], loops := [], joins := [] }
theorem impl_isPoint.cons (N : Nat) : ConsOk Try.prog (impl_isPoint.cfg N).con := (consOk_cons (hb54) (impl_within.ok N) (impl_within.det N) consOk_nil)
theorem impl_isPoint.ls (N : Nat) : LoopsOk Try.prog (impl_isPoint.cfg N) (fnBody Try.f43) := loopsL (l := []) (by kernel_rfl) trivial
theorem impl_isPoint.b (N : Nat) (x0 : den (.int .i64)) : body (impl_isPoint.cfg N) N Try.f43 [.one] [.v] [(false, .imm)] [⟨(.int .i64), .imm, x0⟩] (fun r i => some (r, i)) = bindO (impl_isPoint N x0) fun r => some ([⟨.bool, .imm, r⟩], []) := by
  show _ = bindF _ _
  conv => rhs; simp only [impl_isPoint, bindF_ifB, bindF_bindO, bindF_pure, bindF_none, bindF_onSum]
  kernel_rfl
theorem impl_isPoint.ok (N : Nat) : ConOk Try.prog 43 [.one] (impl_isPoint.con N) := by
  refine conOk_mk (g := impl_isPoint.cfg N) (N := N) (res := [(false, .imm)]) tys_ok (impl_isPoint.cons N) mixed Try.func43 (impl_isPoint.ls N) rfl rfl ?_
  intro ds R k y h
  cases ds with
  | nil => exact none_some h
  | cons d0 ds =>
  cases ds with
  | cons _ _ => exact none_some h
  | nil =>
  have h0 : (castDm (.int .i64) .imm d0 fun x0 => bindO (impl_isPoint N x0) fun r => k [⟨.bool, .imm, r⟩] []) = some y := h
  clear h
  obtain ⟨x0, rfl, h1⟩ := castDm_eq h0
  exact con_fin (impl_isPoint.b N x0) h1
theorem impl_isPoint.det (N : Nat) : ConDet (impl_isPoint.con N) := by
  intro ds R k y h
  cases ds with
  | nil => exact none_some h
  | cons d0 ds =>
  cases ds with
  | cons _ _ => exact none_some h
  | nil =>
  have h0 : (castDm (.int .i64) .imm d0 fun x0 => bindO (impl_isPoint N x0) fun r => k [⟨.bool, .imm, r⟩] []) = some y := h
  clear h
  obtain ⟨x0, rfl, h1⟩ := castDm_eq h0
  obtain ⟨r, e, h⟩ := bindO_some h1
  refine ⟨_, _, h, fun k' => ?_⟩
  show (castDm (.int .i64) .imm (⟨(.int .i64), .imm, x0⟩ : Dy) fun x0 => bindO (impl_isPoint N x0) fun r => k' [⟨.bool, .imm, r⟩] []) = _
  simp only [castDm_self]
  rw [e]
  rfl
noncomputable def impl_PointsRight_c1.con (N : Nat) : Con := { modes := [.v], ptrs := [false], fn := fun ds k => match ds with | [d0] => castDm (.int .i64) .imm d0 fun x0 => bindO (impl_PointsRight_c1 N x0) fun r => k [⟨.bool, .imm, r⟩] [] | _ => none }
noncomputable def impl_PointsRight_c1.cfg (N : Nat) : Cfg := { ty := tys, keep := [4], flt := [], elm := [(22, (.own .imm)), (23, (.own .imm)), (24, (.pr (.own .imm) .imm)), (25, (.pr (.own .imm) .imm)), (26, (.own (.own .imm))), (29, (.own (.pr (.own .imm) .imm))), (30, (.pr (.own (.pr (.own .imm) .imm)) (.pr (.own (.pr (.own .imm) .imm)) .imm))), (31, (.pr (.own (.pr (.own .imm) .imm)) (.pr (.own (.pr (.own .imm) .imm)) .imm))), (32, (.pr (.pr (.own (.pr (.own .imm) .imm)) (.pr (.own (.pr (.own .imm) .imm)) .imm)) (.pr (.pr (.own .imm) .imm) .imm))), (33, (.pr (.pr (.own (.pr (.own .imm) .imm)) (.pr (.own (.pr (.own .imm) .imm)) .imm)) (.pr (.pr (.own .imm) .imm) .imm))), (44, (.pr (.own .imm) .imm)), (45, (.pr (.own .imm) .imm)), (52, (.pr (.pr (.own .imm) .imm) (.pr (.own .imm) .imm))), (53, (.pr (.pr (.own .imm) .imm) (.pr (.own .imm) .imm)))], live := [], ord := [], con := [((43, [.one]), impl_isPoint.con N)], loops := [], joins := [] }
theorem impl_PointsRight_c1.cons (N : Nat) : ConsOk Try.prog (impl_PointsRight_c1.cfg N).con := (consOk_cons (hb43) (impl_isPoint.ok N) (impl_isPoint.det N) consOk_nil)
theorem impl_PointsRight_c1.ls (N : Nat) : LoopsOk Try.prog (impl_PointsRight_c1.cfg N) (fnBody Try.f42) := loopsL (l := []) (by kernel_rfl) trivial
theorem impl_PointsRight_c1.b (N : Nat) (x0 : den (.int .i64)) : body (impl_PointsRight_c1.cfg N) N Try.f42 [.one] [.v] [(false, .imm)] [⟨(.int .i64), .imm, x0⟩] (fun r i => some (r, i)) = bindO (impl_PointsRight_c1 N x0) fun r => some ([⟨.bool, .imm, r⟩], []) := by
  show _ = bindF _ _
  conv => rhs; simp only [impl_PointsRight_c1, bindF_ifB, bindF_bindO, bindF_pure, bindF_none, bindF_onSum]
  kernel_rfl
theorem impl_PointsRight_c1.ok (N : Nat) : ConOk Try.prog 42 [.one] (impl_PointsRight_c1.con N) := by
  refine conOk_mk (g := impl_PointsRight_c1.cfg N) (N := N) (res := [(false, .imm)]) tys_ok (impl_PointsRight_c1.cons N) mixed Try.func42 (impl_PointsRight_c1.ls N) rfl rfl ?_
  intro ds R k y h
  cases ds with
  | nil => exact none_some h
  | cons d0 ds =>
  cases ds with
  | cons _ _ => exact none_some h
  | nil =>
  have h0 : (castDm (.int .i64) .imm d0 fun x0 => bindO (impl_PointsRight_c1 N x0) fun r => k [⟨.bool, .imm, r⟩] []) = some y := h
  clear h
  obtain ⟨x0, rfl, h1⟩ := castDm_eq h0
  exact con_fin (impl_PointsRight_c1.b N x0) h1
theorem impl_PointsRight_c1.det (N : Nat) : ConDet (impl_PointsRight_c1.con N) := by
  intro ds R k y h
  cases ds with
  | nil => exact none_some h
  | cons d0 ds =>
  cases ds with
  | cons _ _ => exact none_some h
  | nil =>
  have h0 : (castDm (.int .i64) .imm d0 fun x0 => bindO (impl_PointsRight_c1 N x0) fun r => k [⟨.bool, .imm, r⟩] []) = some y := h
  clear h
  obtain ⟨x0, rfl, h1⟩ := castDm_eq h0
  obtain ⟨r, e, h⟩ := bindO_some h1
  refine ⟨_, _, h, fun k' => ?_⟩
  show (castDm (.int .i64) .imm (⟨(.int .i64), .imm, x0⟩ : Dy) fun x0 => bindO (impl_PointsRight_c1 N x0) fun r => k' [⟨.bool, .imm, r⟩] []) = _
  simp only [castDm_self]
  rw [e]
  rfl
def slices_IndexFunc_Sint64_int64__impl_PointsRight_c1.sk2 : Skel := ⟨[.pv (.sl 2 (.int .i64)), .fn 42 [], .dead, .dead, .dead, .dead, .dead, .pv (.int .i64), .pv (.int .i64), .dead, .dead, .dead, .dead, .dead, .dead, .dead, .dead, .dead, .dead], []⟩
def slices_IndexFunc_Sint64_int64__impl_PointsRight_c1.xs2 : List XS := [⟨.exit 0, [], ⟨[.dead, .dead, .dead, .dead, .dead, .dead, .dead, .dead, .dead, .dead, .dead, .dead, .dead, .dead, .dead, .dead, .dead, .dead, .dead], []⟩⟩, ⟨.ret, [4], ⟨[.dead, .dead, .dead, .dead, .pv (.int .i64), .dead, .dead, .dead, .dead, .dead, .dead, .dead, .dead, .dead, .dead, .dead, .dead, .dead, .dead], []⟩⟩]
noncomputable def slices_IndexFunc_Sint64_int64__impl_PointsRight_c1.con (N : Nat) : Con := { modes := [.v], ptrs := [false], fn := fun ds k => match ds with | [d0] => castDm (.sl 2 (.int .i64)) .imm d0 fun x0 => bindO (slices_IndexFunc_Sint64_int64__impl_PointsRight_c1 N x0) fun r => k [⟨(.int .i64), .imm, r⟩] [] | _ => none }
noncomputable def slices_IndexFunc_Sint64_int64__impl_PointsRight_c1.cfg (N : Nat) : Cfg := { ty := tys, keep := [16], flt := [], elm := [(22, (.own .imm)), (23, (.own .imm)), (24, (.pr (.own .imm) .imm)), (25, (.pr (.own .imm) .imm)), (26, (.own (.own .imm))), (29, (.own (.pr (.own .imm) .imm))), (30, (.pr (.own (.pr (.own .imm) .imm)) (.pr (.own (.pr (.own .imm) .imm)) .imm))), (31, (.pr (.own (.pr (.own .imm) .imm)) (.pr (.own (.pr (.own .imm) .imm)) .imm))), (32, (.pr (.pr (.own (.pr (.own .imm) .imm)) (.pr (.own (.pr (.own .imm) .imm)) .imm)) (.pr (.pr (.own .imm) .imm) .imm))), (33, (.pr (.pr (.own (.pr (.own .imm) .imm)) (.pr (.own (.pr (.own .imm) .imm)) .imm)) (.pr (.pr (.own .imm) .imm) .imm))), (44, (.pr (.own .imm) .imm)), (45, (.pr (.own .imm) .imm)), (52, (.pr (.pr (.own .imm) .imm) (.pr (.own .imm) .imm))), (53, (.pr (.pr (.own .imm) .imm) (.pr (.own .imm) .imm)))], live := [(2, [0, 1, 7, 8])], ord := [], con := [((42, [.one]), impl_PointsRight_c1.con N)], loops := [(2, loopCon N slices_IndexFunc_Sint64_int64__impl_PointsRight_c1.sk2 slices_IndexFunc_Sint64_int64__impl_PointsRight_c1.xs2 (fun {R} => slices_IndexFunc_Sint64_int64__impl_PointsRight_c1.l2 (R := R) N))], joins := [] }
theorem slices_IndexFunc_Sint64_int64__impl_PointsRight_c1.cons (N : Nat) : ConsOk Try.prog (slices_IndexFunc_Sint64_int64__impl_PointsRight_c1.cfg N).con := (consOk_cons (hb42) (impl_PointsRight_c1.ok N) (impl_PointsRight_c1.det N) consOk_nil)
theorem slices_IndexFunc_Sint64_int64__impl_PointsRight_c1.h2 {R : Type} (N : Nat) (d : slices_IndexFunc_Sint64_int64__impl_PointsRight_c1.sk2.D) (kn : slices_IndexFunc_Sint64_int64__impl_PointsRight_c1.sk2.D → Option R) (kx : XD slices_IndexFunc_Sint64_int64__impl_PointsRight_c1.xs2 → Option R) : roundK (slices_IndexFunc_Sint64_int64__impl_PointsRight_c1.cfg N) N (nthLoop (fnBody Try.f55) 0) slices_IndexFunc_Sint64_int64__impl_PointsRight_c1.sk2 slices_IndexFunc_Sint64_int64__impl_PointsRight_c1.xs2 d kn kx = slices_IndexFunc_Sint64_int64__impl_PointsRight_c1.l2 N d kn kx := by kernel_rfl
theorem slices_IndexFunc_Sint64_int64__impl_PointsRight_c1.i2 (N : Nat) : LoopsOk Try.prog (slices_IndexFunc_Sint64_int64__impl_PointsRight_c1.cfg N) (nthLoop (fnBody Try.f55) 0) := loopsL (l := []) (by kernel_rfl) trivial
theorem slices_IndexFunc_Sint64_int64__impl_PointsRight_c1.o2 (N : Nat) : LoopOk Try.prog (nthLoop (fnBody Try.f55) 0) (loopCon N slices_IndexFunc_Sint64_int64__impl_PointsRight_c1.sk2 slices_IndexFunc_Sint64_int64__impl_PointsRight_c1.xs2 (fun {R} => slices_IndexFunc_Sint64_int64__impl_PointsRight_c1.l2 (R := R) N)) := loop_ok (g := slices_IndexFunc_Sint64_int64__impl_PointsRight_c1.cfg N) tys_ok (slices_IndexFunc_Sint64_int64__impl_PointsRight_c1.cons N) mixed (slices_IndexFunc_Sint64_int64__impl_PointsRight_c1.i2 N) (fun d kn kx => slices_IndexFunc_Sint64_int64__impl_PointsRight_c1.h2 N d kn kx)
theorem slices_IndexFunc_Sint64_int64__impl_PointsRight_c1.ls (N : Nat) : LoopsOk Try.prog (slices_IndexFunc_Sint64_int64__impl_PointsRight_c1.cfg N) (fnBody Try.f55) := loopsL (l := [nthLoop (fnBody Try.f55) 0]) (by kernel_rfl) ⟨loopOne (L0 := loopCon N slices_IndexFunc_Sint64_int64__impl_PointsRight_c1.sk2 slices_IndexFunc_Sint64_int64__impl_PointsRight_c1.xs2 (fun {R} => slices_IndexFunc_Sint64_int64__impl_PointsRight_c1.l2 (R := R) N)) (id := 2) (by kernel_rfl) (by kernel_rfl) (slices_IndexFunc_Sint64_int64__impl_PointsRight_c1.o2 N), trivial⟩
theorem slices_IndexFunc_Sint64_int64__impl_PointsRight_c1.q2 {R R' : Type} {N n : Nat} {d} {k} {g : R → Option R'} : bindF (loopP (slices_IndexFunc_Sint64_int64__impl_PointsRight_c1.l2 N) n d k) g = loopP (slices_IndexFunc_Sint64_int64__impl_PointsRight_c1.l2 N) n d fun e => bindF (k e) g := bindF_loopP (fun d kn kx => by simp only [slices_IndexFunc_Sint64_int64__impl_PointsRight_c1.l2, bindF_ifB, bindF_bindO, bindF_pure, bindF_none, bindF_onSum]) n d k
theorem slices_IndexFunc_Sint64_int64__impl_PointsRight_c1.b (N : Nat) (x0 : den (.sl 2 (.int .i64))) : body (slices_IndexFunc_Sint64_int64__impl_PointsRight_c1.cfg N) N Try.f55 [.one, .fn 42 0] [.v] [(false, .imm)] [⟨(.sl 2 (.int .i64)), .imm, x0⟩] (fun r i => some (r, i)) = bindO (slices_IndexFunc_Sint64_int64__impl_PointsRight_c1 N x0) fun r => some ([⟨(.int .i64), .imm, r⟩], []) := by
  show _ = bindF _ _
  conv => rhs; simp only [slices_IndexFunc_Sint64_int64__impl_PointsRight_c1, bindF_ifB, bindF_bindO, bindF_pure, bindF_none, bindF_onSum, slices_IndexFunc_Sint64_int64__impl_PointsRight_c1.q2]
  kernel_rfl
theorem slices_IndexFunc_Sint64_int64__impl_PointsRight_c1.ok (N : Nat) : ConOk Try.prog 55 [.one, .fn 42 0] (slices_IndexFunc_Sint64_int64__impl_PointsRight_c1.con N) := by
  refine conOk_mk (g := slices_IndexFunc_Sint64_int64__impl_PointsRight_c1.cfg N) (N := N) (res := [(false, .imm)]) tys_ok (slices_IndexFunc_Sint64_int64__impl_PointsRight_c1.cons N) mixed Try.func55 (slices_IndexFunc_Sint64_int64__impl_PointsRight_c1.ls N) rfl rfl ?_
  intro ds R k y h
  cases ds with
  | nil => exact none_some h
  | cons d0 ds =>
  cases ds with
  | cons _ _ => exact none_some h
  | nil =>
  have h0 : (castDm (.sl 2 (.int .i64)) .imm d0 fun x0 => bindO (slices_IndexFunc_Sint64_int64__impl_PointsRight_c1 N x0) fun r => k [⟨(.int .i64), .imm, r⟩] []) = some y := h
  clear h
  obtain ⟨x0, rfl, h1⟩ := castDm_eq h0
  exact con_fin (slices_IndexFunc_Sint64_int64__impl_PointsRight_c1.b N x0) h1
theorem slices_IndexFunc_Sint64_int64__impl_PointsRight_c1.det (N : Nat) : ConDet (slices_IndexFunc_Sint64_int64__impl_PointsRight_c1.con N) := by
  intro ds R k y h
  cases ds with
  | nil => exact none_some h
  | cons d0 ds =>
  cases ds with
  | cons _ _ => exact none_some h
  | nil =>
  have h0 : (castDm (.sl 2 (.int .i64)) .imm d0 fun x0 => bindO (slices_IndexFunc_Sint64_int64__impl_PointsRight_c1 N x0) fun r => k [⟨(.int .i64), .imm, r⟩] []) = some y := h
  clear h
  obtain ⟨x0, rfl, h1⟩ := castDm_eq h0
  obtain ⟨r, e, h⟩ := bindO_some h1
  refine ⟨_, _, h, fun k' => ?_⟩
  show (castDm (.sl 2 (.int .i64)) .imm (⟨(.sl 2 (.int .i64)), .imm, x0⟩ : Dy) fun x0 => bindO (slices_IndexFunc_Sint64_int64__impl_PointsRight_c1 N x0) fun r => k' [⟨(.int .i64), .imm, r⟩] []) = _
  simp only [castDm_self]
  rw [e]
  rfl
noncomputable def slices_ContainsFunc_Sint64_int64__impl_PointsRight_c1.con (N : Nat) : Con := { modes := [.v], ptrs := [false], fn := fun ds k => match ds with | [d0] => castDm (.sl 2 (.int .i64)) .imm d0 fun x0 => bindO (slices_ContainsFunc_Sint64_int64__impl_PointsRight_c1 N x0) fun r => k [⟨.bool, .imm, r⟩] [] | _ => none }
noncomputable def slices_ContainsFunc_Sint64_int64__impl_PointsRight_c1.cfg (N : Nat) : Cfg := { ty := tys, keep := [7], flt := [], elm := [(22, (.own .imm)), (23, (.own .imm)), (24, (.pr (.own .imm) .imm)), (25, (.pr (.own .imm) .imm)), (26, (.own (.own .imm))), (29, (.own (.pr (.own .imm) .imm))), (30, (.pr (.own (.pr (.own .imm) .imm)) (.pr (.own (.pr (.own .imm) .imm)) .imm))), (31, (.pr (.own (.pr (.own .imm) .imm)) (.pr (.own (.pr (.own .imm) .imm)) .imm))), (32, (.pr (.pr (.own (.pr (.own .imm) .imm)) (.pr (.own (.pr (.own .imm) .imm)) .imm)) (.pr (.pr (.own .imm) .imm) .imm))), (33, (.pr (.pr (.own (.pr (.own .imm) .imm)) (.pr (.own (.pr (.own .imm) .imm)) .imm)) (.pr (.pr (.own .imm) .imm) .imm))), (44, (.pr (.own .imm) .imm)), (45, (.pr (.own .imm) .imm)), (52, (.pr (.pr (.own .imm) .imm) (.pr (.own .imm) .imm))), (53, (.pr (.pr (.own .imm) .imm) (.pr (.own .imm) .imm)))], live := [], ord := [], con := [((55, [.one, .fn 42 0]), slices_IndexFunc_Sint64_int64__impl_PointsRight_c1.con N)], loops := [], joins := [] }
theorem slices_ContainsFunc_Sint64_int64__impl_PointsRight_c1.cons (N : Nat) : ConsOk Try.prog (slices_ContainsFunc_Sint64_int64__impl_PointsRight_c1.cfg N).con := (consOk_cons (hb55) (slices_IndexFunc_Sint64_int64__impl_PointsRight_c1.ok N) (slices_IndexFunc_Sint64_int64__impl_PointsRight_c1.det N) consOk_nil)
theorem slices_ContainsFunc_Sint64_int64__impl_PointsRight_c1.ls (N : Nat) : LoopsOk Try.prog (slices_ContainsFunc_Sint64_int64__impl_PointsRight_c1.cfg N) (fnBody Try.f41) := loopsL (l := []) (by kernel_rfl) trivial
theorem slices_ContainsFunc_Sint64_int64__impl_PointsRight_c1.b (N : Nat) (x0 : den (.sl 2 (.int .i64))) : body (slices_ContainsFunc_Sint64_int64__impl_PointsRight_c1.cfg N) N Try.f41 [.one, .fn 42 0] [.v] [(false, .imm)] [⟨(.sl 2 (.int .i64)), .imm, x0⟩] (fun r i => some (r, i)) = bindO (slices_ContainsFunc_Sint64_int64__impl_PointsRight_c1 N x0) fun r => some ([⟨.bool, .imm, r⟩], []) := by
  show _ = bindF _ _
  conv => rhs; simp only [slices_ContainsFunc_Sint64_int64__impl_PointsRight_c1, bindF_ifB, bindF_bindO, bindF_pure, bindF_none, bindF_onSum]
  kernel_rfl
theorem slices_ContainsFunc_Sint64_int64__impl_PointsRight_c1.ok (N : Nat) : ConOk Try.prog 41 [.one, .fn 42 0] (slices_ContainsFunc_Sint64_int64__impl_PointsRight_c1.con N) := by
  refine conOk_mk (g := slices_ContainsFunc_Sint64_int64__impl_PointsRight_c1.cfg N) (N := N) (res := [(false, .imm)]) tys_ok (slices_ContainsFunc_Sint64_int64__impl_PointsRight_c1.cons N) mixed Try.func41 (slices_ContainsFunc_Sint64_int64__impl_PointsRight_c1.ls N) rfl rfl ?_
  intro ds R k y h
  cases ds with
  | nil => exact none_some h
  | cons d0 ds =>
  cases ds with
  | cons _ _ => exact none_some h
  | nil =>
  have h0 : (castDm (.sl 2 (.int .i64)) .imm d0 fun x0 => bindO (slices_ContainsFunc_Sint64_int64__impl_PointsRight_c1 N x0) fun r => k [⟨.bool, .imm, r⟩] []) = some y := h
  clear h
  obtain ⟨x0, rfl, h1⟩ := castDm_eq h0
  exact con_fin (slices_ContainsFunc_Sint64_int64__impl_PointsRight_c1.b N x0) h1
theorem slices_ContainsFunc_Sint64_int64__impl_PointsRight_c1.det (N : Nat) : ConDet (slices_ContainsFunc_Sint64_int64__impl_PointsRight_c1.con N) := by
  intro ds R k y h
  cases ds with
  | nil => exact none_some h
  | cons d0 ds =>
  cases ds with
  | cons _ _ => exact none_some h
  | nil =>
  have h0 : (castDm (.sl 2 (.int .i64)) .imm d0 fun x0 => bindO (slices_ContainsFunc_Sint64_int64__impl_PointsRight_c1 N x0) fun r => k [⟨.bool, .imm, r⟩] []) = some y := h
  clear h
  obtain ⟨x0, rfl, h1⟩ := castDm_eq h0
  obtain ⟨r, e, h⟩ := bindO_some h1
  refine ⟨_, _, h, fun k' => ?_⟩
  show (castDm (.sl 2 (.int .i64)) .imm (⟨(.sl 2 (.int .i64)), .imm, x0⟩ : Dy) fun x0 => bindO (slices_ContainsFunc_Sint64_int64__impl_PointsRight_c1 N x0) fun r => k' [⟨.bool, .imm, r⟩] []) = _
  simp only [castDm_self]
  rw [e]
  rfl
noncomputable def impl_PointsRight.con (N : Nat) : Con := { modes := [.v], ptrs := [false], fn := fun ds k => match ds with | [d0] => castDm (.sl 2 (.int .i64)) .imm d0 fun x0 => bindO (impl_PointsRight N x0) fun r => k [⟨.bool, .imm, r⟩] [] | _ => none }
noncomputable def impl_PointsRight.cfg (N : Nat) : Cfg := { ty := tys, keep := [8], flt := [], elm := [(22, (.own .imm)), (23, (.own .imm)), (24, (.pr (.own .imm) .imm)), (25, (.pr (.own .imm) .imm)), (26, (.own (.own .imm))), (29, (.own (.pr (.own .imm) .imm))), (30, (.pr (.own (.pr (.own .imm) .imm)) (.pr (.own (.pr (.own .imm) .imm)) .imm))), (31, (.pr (.own (.pr (.own .imm) .imm)) (.pr (.own (.pr (.own .imm) .imm)) .imm))), (32, (.pr (.pr (.own (.pr (.own .imm) .imm)) (.pr (.own (.pr (.own .imm) .imm)) .imm)) (.pr (.pr (.own .imm) .imm) .imm))), (33, (.pr (.pr (.own (.pr (.own .imm) .imm)) (.pr (.own (.pr (.own .imm) .imm)) .imm)) (.pr (.pr (.own .imm) .imm) .imm))), (44, (.pr (.own .imm) .imm)), (45, (.pr (.own .imm) .imm)), (52, (.pr (.pr (.own .imm) .imm) (.pr (.own .imm) .imm))), (53, (.pr (.pr (.own .imm) .imm) (.pr (.own .imm) .imm)))], live := [], ord := [], con := [((41, [.one, .fn 42 0]), slices_ContainsFunc_Sint64_int64__impl_PointsRight_c1.con N)], loops := [], joins := [] }
theorem impl_PointsRight.cons (N : Nat) : ConsOk Try.prog (impl_PointsRight.cfg N).con := (consOk_cons (hb41) (slices_ContainsFunc_Sint64_int64__impl_PointsRight_c1.ok N) (slices_ContainsFunc_Sint64_int64__impl_PointsRight_c1.det N) consOk_nil)
theorem impl_PointsRight.ls (N : Nat) : LoopsOk Try.prog (impl_PointsRight.cfg N) (fnBody Try.f25) := loopsL (l := []) (by kernel_rfl) trivial
theorem impl_PointsRight.b (N : Nat) (x0 : den (.sl 2 (.int .i64))) : body (impl_PointsRight.cfg N) N Try.f25 [.one] [.v] [(false, .imm)] [⟨(.sl 2 (.int .i64)), .imm, x0⟩] (fun r i => some (r, i)) = bindO (impl_PointsRight N x0) fun r => some ([⟨.bool, .imm, r⟩], []) := by
  show _ = bindF _ _
  conv => rhs; simp only [impl_PointsRight, bindF_ifB, bindF_bindO, bindF_pure, bindF_none, bindF_onSum]
  kernel_rfl
theorem impl_PointsRight.ok (N : Nat) : ConOk Try.prog 25 [.one] (impl_PointsRight.con N) := by
  refine conOk_mk (g := impl_PointsRight.cfg N) (N := N) (res := [(false, .imm)]) tys_ok (impl_PointsRight.cons N) mixed Try.func25 (impl_PointsRight.ls N) rfl rfl ?_
  intro ds R k y h
  cases ds with
  | nil => exact none_some h
  | cons d0 ds =>
  cases ds with
  | cons _ _ => exact none_some h
  | nil =>
  have h0 : (castDm (.sl 2 (.int .i64)) .imm d0 fun x0 => bindO (impl_PointsRight N x0) fun r => k [⟨.bool, .imm, r⟩] []) = some y := h
  clear h
  obtain ⟨x0, rfl, h1⟩ := castDm_eq h0
  exact con_fin (impl_PointsRight.b N x0) h1
theorem impl_PointsRight.det (N : Nat) : ConDet (impl_PointsRight.con N) := by
  intro ds R k y h
  cases ds with
  | nil => exact none_some h
  | cons d0 ds =>
  cases ds with
  | cons _ _ => exact none_some h
  | nil =>
  have h0 : (castDm (.sl 2 (.int .i64)) .imm d0 fun x0 => bindO (impl_PointsRight N x0) fun r => k [⟨.bool, .imm, r⟩] []) = some y := h
  clear h
  obtain ⟨x0, rfl, h1⟩ := castDm_eq h0
  obtain ⟨r, e, h⟩ := bindO_some h1
  refine ⟨_, _, h, fun k' => ?_⟩
  show (castDm (.sl 2 (.int .i64)) .imm (⟨(.sl 2 (.int .i64)), .imm, x0⟩ : Dy) fun x0 => bindO (impl_PointsRight N x0) fun r => k' [⟨.bool, .imm, r⟩] []) = _
  simp only [castDm_self]
  rw [e]
  rfl
noncomputable def impl_size_Sint64.con (N : Nat) : Con := { modes := [.v], ptrs := [false], fn := fun ds k => match ds with | [d0] => castDm (.sl 2 (.int .i64)) .imm d0 fun x0 => bindO (impl_size_Sint64 N x0) fun r => k [⟨(.int .i64), .imm, r⟩] [] | _ => none }
noncomputable def impl_size_Sint64.cfg (N : Nat) : Cfg := { ty := tys, keep := [], flt := [], elm := [(22, (.own .imm)), (23, (.own .imm)), (24, (.pr (.own .imm) .imm)), (25, (.pr (.own .imm) .imm)), (26, (.own (.own .imm))), (29, (.own (.pr (.own .imm) .imm))), (30, (.pr (.own (.pr (.own .imm) .imm)) (.pr (.own (.pr (.own .imm) .imm)) .imm))), (31, (.pr (.own (.pr (.own .imm) .imm)) (.pr (.own (.pr (.own .imm) .imm)) .imm))), (32, (.pr (.pr (.own (.pr (.own .imm) .imm)) (.pr (.own (.pr (.own .imm) .imm)) .imm)) (.pr (.pr (.own .imm) .imm) .imm))), (33, (.pr (.pr (.own (.pr (.own .imm) .imm)) (.pr (.own (.pr (.own .imm) .imm)) .imm)) (.pr (.pr (.own .imm) .imm) .imm))), (44, (.pr (.own .imm) .imm)), (45, (.pr (.own .imm) .imm)), (52, (.pr (.pr (.own .imm) .imm) (.pr (.own .imm) .imm))), (53, (.pr (.pr (.own .imm) .imm) (.pr (.own .imm) .imm)))], live := [], ord := [], con := [], loops := [], joins := [] }
theorem impl_size_Sint64.cons (N : Nat) : ConsOk Try.prog (impl_size_Sint64.cfg N).con := consOk_nil
theorem impl_size_Sint64.ls (N : Nat) : LoopsOk Try.prog (impl_size_Sint64.cfg N) (fnBody Try.f48) := loopsL (l := []) (by kernel_rfl) trivial
theorem impl_size_Sint64.b (N : Nat) (x0 : den (.sl 2 (.int .i64))) : body (impl_size_Sint64.cfg N) N Try.f48 [.one] [.v] [(false, .imm)] [⟨(.sl 2 (.int .i64)), .imm, x0⟩] (fun r i => some (r, i)) = bindO (impl_size_Sint64 N x0) fun r => some ([⟨(.int .i64), .imm, r⟩], []) := by
  show _ = bindF _ _
  conv => rhs; simp only [impl_size_Sint64, bindF_ifB, bindF_bindO, bindF_pure, bindF_none, bindF_onSum]
  kernel_rfl
theorem impl_size_Sint64.ok (N : Nat) : ConOk Try.prog 48 [.one] (impl_size_Sint64.con N) := by
  refine conOk_mk (g := impl_size_Sint64.cfg N) (N := N) (res := [(false, .imm)]) tys_ok (impl_size_Sint64.cons N) mixed Try.func48 (impl_size_Sint64.ls N) rfl rfl ?_
  intro ds R k y h
  cases ds with
  | nil => exact none_some h
  | cons d0 ds =>
  cases ds with
  | cons _ _ => exact none_some h
  | nil =>
  have h0 : (castDm (.sl 2 (.int .i64)) .imm d0 fun x0 => bindO (impl_size_Sint64 N x0) fun r => k [⟨(.int .i64), .imm, r⟩] []) = some y := h
  clear h
  obtain ⟨x0, rfl, h1⟩ := castDm_eq h0
  exact con_fin (impl_size_Sint64.b N x0) h1
theorem impl_size_Sint64.det (N : Nat) : ConDet (impl_size_Sint64.con N) := by
  intro ds R k y h
  cases ds with
  | nil => exact none_some h
  | cons d0 ds =>
  cases ds with
  | cons _ _ => exact none_some h
  | nil =>
  have h0 : (castDm (.sl 2 (.int .i64)) .imm d0 fun x0 => bindO (impl_size_Sint64 N x0) fun r => k [⟨(.int .i64), .imm, r⟩] []) = some y := h
  clear h
  obtain ⟨x0, rfl, h1⟩ := castDm_eq h0
  obtain ⟨r, e, h⟩ := bindO_some h1
  refine ⟨_, _, h, fun k' => ?_⟩
  show (castDm (.sl 2 (.int .i64)) .imm (⟨(.sl 2 (.int .i64)), .imm, x0⟩ : Dy) fun x0 => bindO (impl_size_Sint64 N x0) fun r => k' [⟨(.int .i64), .imm, r⟩] []) = _
  simp only [castDm_self]
  rw [e]
  rfl
noncomputable def impl_Buf_isPlace.con (N : Nat) : Con := { modes := [.rd, .v], ptrs := [false], fn := fun ds k => match ds with | [d0, d1] => castDm (.pair (.sl 2 (.int .i64)) (.pair (.int .i64) (.pair (.int .i64) .unit))) .imm d0 fun x0 => castDm (.int .i64) .imm d1 fun x1 => bindO (impl_Buf_isPlace N x0 x1) fun r => k [⟨.bool, .imm, r⟩] [] | _ => none }
noncomputable def impl_Buf_isPlace.cfg (N : Nat) : Cfg := { ty := tys, keep := [10, 11], flt := [], elm := [(22, (.own .imm)), (23, (.own .imm)), (24, (.pr (.own .imm) .imm)), (25, (.pr (.own .imm) .imm)), (26, (.own (.own .imm))), (29, (.own (.pr (.own .imm) .imm))), (30, (.pr (.own (.pr (.own .imm) .imm)) (.pr (.own (.pr (.own .imm) .imm)) .imm))), (31, (.pr (.own (.pr (.own .imm) .imm)) (.pr (.own (.pr (.own .imm) .imm)) .imm))), (32, (.pr (.pr (.own (.pr (.own .imm) .imm)) (.pr (.own (.pr (.own .imm) .imm)) .imm)) (.pr (.pr (.own .imm) .imm) .imm))), (33, (.pr (.pr (.own (.pr (.own .imm) .imm)) (.pr (.own (.pr (.own .imm) .imm)) .imm)) (.pr (.pr (.own .imm) .imm) .imm))), (44, (.pr (.own .imm) .imm)), (45, (.pr (.own .imm) .imm)), (52, (.pr (.pr (.own .imm) .imm) (.pr (.own .imm) .imm))), (53, (.pr (.pr (.own .imm) .imm) (.pr (.own .imm) .imm)))], live := [], ord := [], con := [((48, [.one]), impl_size_Sint64.con N), ((54, [.one, .one, .one]), impl_within.con N)], loops := [], joins := [] }
theorem impl_Buf_isPlace.cons (N : Nat) : ConsOk Try.prog (impl_Buf_isPlace.cfg N).con := (consOk_cons (hb48) (impl_size_Sint64.ok N) (impl_size_Sint64.det N) (consOk_cons (hb54) (impl_within.ok N) (impl_within.det N) consOk_nil))
theorem impl_Buf_isPlace.ls (N : Nat) : LoopsOk Try.prog (impl_Buf_isPlace.cfg N) (fnBody Try.f39) := loopsL (l := []) (by kernel_rfl) trivial
theorem impl_Buf_isPlace.b (N : Nat) (x0 : den (.pair (.sl 2 (.int .i64)) (.pair (.int .i64) (.pair (.int .i64) .unit)))) (x1 : den (.int .i64)) : body (impl_Buf_isPlace.cfg N) N Try.f39 [.one, .one] [.rd, .v] [(false, .imm)] [⟨(.pair (.sl 2 (.int .i64)) (.pair (.int .i64) (.pair (.int .i64) .unit))), .imm, x0⟩, ⟨(.int .i64), .imm, x1⟩] (fun r i => some (r, i)) = bindO (impl_Buf_isPlace N x0 x1) fun r => some ([⟨.bool, .imm, r⟩], []) := by
  show _ = bindF _ _
  conv => rhs; simp only [impl_Buf_isPlace, bindF_ifB, bindF_bindO, bindF_pure, bindF_none, bindF_onSum]
  kernel_rfl
theorem impl_Buf_isPlace.ok (N : Nat) : ConOk Try.prog 39 [.one, .one] (impl_Buf_isPlace.con N) := by
  refine conOk_mk (g := impl_Buf_isPlace.cfg N) (N := N) (res := [(false, .imm)]) tys_ok (impl_Buf_isPlace.cons N) mixed Try.func39 (impl_Buf_isPlace.ls N) rfl rfl ?_
  intro ds R k y h
  cases ds with
  | nil => exact none_some h
  | cons d0 ds =>
  cases ds with
  | nil => exact none_some h
  | cons d1 ds =>
  cases ds with
  | cons _ _ => exact none_some h
  | nil =>
  have h0 : (castDm (.pair (.sl 2 (.int .i64)) (.pair (.int .i64) (.pair (.int .i64) .unit))) .imm d0 fun x0 => castDm (.int .i64) .imm d1 fun x1 => bindO (impl_Buf_isPlace N x0 x1) fun r => k [⟨.bool, .imm, r⟩] []) = some y := h
  clear h
  obtain ⟨x0, rfl, h1⟩ := castDm_eq h0
  obtain ⟨x1, rfl, h2⟩ := castDm_eq h1
  exact con_fin (impl_Buf_isPlace.b N x0 x1) h2
theorem impl_Buf_isPlace.det (N : Nat) : ConDet (impl_Buf_isPlace.con N) := by
  intro ds R k y h
  cases ds with
  | nil => exact none_some h
  | cons d0 ds =>
  cases ds with
  | nil => exact none_some h
  | cons d1 ds =>
  cases ds with
  | cons _ _ => exact none_some h
  | nil =>
  have h0 : (castDm (.pair (.sl 2 (.int .i64)) (.pair (.int .i64) (.pair (.int .i64) .unit))) .imm d0 fun x0 => castDm (.int .i64) .imm d1 fun x1 => bindO (impl_Buf_isPlace N x0 x1) fun r => k [⟨.bool, .imm, r⟩] []) = some y := h
  clear h
  obtain ⟨x0, rfl, h1⟩ := castDm_eq h0
  obtain ⟨x1, rfl, h2⟩ := castDm_eq h1
  obtain ⟨r, e, h⟩ := bindO_some h2
  refine ⟨_, _, h, fun k' => ?_⟩
  show (castDm (.pair (.sl 2 (.int .i64)) (.pair (.int .i64) (.pair (.int .i64) .unit))) .imm (⟨(.pair (.sl 2 (.int .i64)) (.pair (.int .i64) (.pair (.int .i64) .unit))), .imm, x0⟩ : Dy) fun x0 => castDm (.int .i64) .imm (⟨(.int .i64), .imm, x1⟩ : Dy) fun x1 => bindO (impl_Buf_isPlace N x0 x1) fun r => k' [⟨.bool, .imm, r⟩] []) = _
  simp only [castDm_self]
  rw [e]
  rfl
noncomputable def impl_BufRight.con (N : Nat) : Con := { modes := [.v], ptrs := [false], fn := fun ds k => match ds with | [d0] => castDm (.pair (.sl 2 (.int .i64)) (.pair (.int .i64) (.pair (.int .i64) .unit))) .imm d0 fun x0 => bindO (impl_BufRight N x0) fun r => k [⟨.bool, .imm, r⟩] [] | _ => none }
noncomputable def impl_BufRight.cfg (N : Nat) : Cfg := { ty := tys, keep := [5, 9, 14], flt := [], elm := [(22, (.own .imm)), (23, (.own .imm)), (24, (.pr (.own .imm) .imm)), (25, (.pr (.own .imm) .imm)), (26, (.own (.own .imm))), (29, (.own (.pr (.own .imm) .imm))), (30, (.pr (.own (.pr (.own .imm) .imm)) (.pr (.own (.pr (.own .imm) .imm)) .imm))), (31, (.pr (.own (.pr (.own .imm) .imm)) (.pr (.own (.pr (.own .imm) .imm)) .imm))), (32, (.pr (.pr (.own (.pr (.own .imm) .imm)) (.pr (.own (.pr (.own .imm) .imm)) .imm)) (.pr (.pr (.own .imm) .imm) .imm))), (33, (.pr (.pr (.own (.pr (.own .imm) .imm)) (.pr (.own (.pr (.own .imm) .imm)) .imm)) (.pr (.pr (.own .imm) .imm) .imm))), (44, (.pr (.own .imm) .imm)), (45, (.pr (.own .imm) .imm)), (52, (.pr (.pr (.own .imm) .imm) (.pr (.own .imm) .imm))), (53, (.pr (.pr (.own .imm) .imm) (.pr (.own .imm) .imm)))], live := [], ord := [], con := [((25, [.one]), impl_PointsRight.con N), ((39, [.one, .one]), impl_Buf_isPlace.con N)], loops := [], joins := [] }
theorem impl_BufRight.cons (N : Nat) : ConsOk Try.prog (impl_BufRight.cfg N).con := (consOk_cons (hb25) (impl_PointsRight.ok N) (impl_PointsRight.det N) (consOk_cons (hb39) (impl_Buf_isPlace.ok N) (impl_Buf_isPlace.det N) consOk_nil))
theorem impl_BufRight.ls (N : Nat) : LoopsOk Try.prog (impl_BufRight.cfg N) (fnBody Try.f22) := loopsL (l := []) (by kernel_rfl) trivial
theorem impl_BufRight.b (N : Nat) (x0 : den (.pair (.sl 2 (.int .i64)) (.pair (.int .i64) (.pair (.int .i64) .unit)))) : body (impl_BufRight.cfg N) N Try.f22 [.one] [.v] [(false, .imm)] [⟨(.pair (.sl 2 (.int .i64)) (.pair (.int .i64) (.pair (.int .i64) .unit))), .imm, x0⟩] (fun r i => some (r, i)) = bindO (impl_BufRight N x0) fun r => some ([⟨.bool, .imm, r⟩], []) := by
  show _ = bindF _ _
  conv => rhs; simp only [impl_BufRight, bindF_ifB, bindF_bindO, bindF_pure, bindF_none, bindF_onSum]
  kernel_rfl
theorem impl_BufRight.ok (N : Nat) : ConOk Try.prog 22 [.one] (impl_BufRight.con N) := by
  refine conOk_mk (g := impl_BufRight.cfg N) (N := N) (res := [(false, .imm)]) tys_ok (impl_BufRight.cons N) mixed Try.func22 (impl_BufRight.ls N) rfl rfl ?_
  intro ds R k y h
  cases ds with
  | nil => exact none_some h
  | cons d0 ds =>
  cases ds with
  | cons _ _ => exact none_some h
  | nil =>
  have h0 : (castDm (.pair (.sl 2 (.int .i64)) (.pair (.int .i64) (.pair (.int .i64) .unit))) .imm d0 fun x0 => bindO (impl_BufRight N x0) fun r => k [⟨.bool, .imm, r⟩] []) = some y := h
  clear h
  obtain ⟨x0, rfl, h1⟩ := castDm_eq h0
  exact con_fin (impl_BufRight.b N x0) h1
theorem impl_BufRight.det (N : Nat) : ConDet (impl_BufRight.con N) := by
  intro ds R k y h
  cases ds with
  | nil => exact none_some h
  | cons d0 ds =>
  cases ds with
  | cons _ _ => exact none_some h
  | nil =>
  have h0 : (castDm (.pair (.sl 2 (.int .i64)) (.pair (.int .i64) (.pair (.int .i64) .unit))) .imm d0 fun x0 => bindO (impl_BufRight N x0) fun r => k [⟨.bool, .imm, r⟩] []) = some y := h
  clear h
  obtain ⟨x0, rfl, h1⟩ := castDm_eq h0
  obtain ⟨r, e, h⟩ := bindO_some h1
  refine ⟨_, _, h, fun k' => ?_⟩
  show (castDm (.pair (.sl 2 (.int .i64)) (.pair (.int .i64) (.pair (.int .i64) .unit))) .imm (⟨(.pair (.sl 2 (.int .i64)) (.pair (.int .i64) (.pair (.int .i64) .unit))), .imm, x0⟩ : Dy) fun x0 => bindO (impl_BufRight N x0) fun r => k' [⟨.bool, .imm, r⟩] []) = _
  simp only [castDm_self]
  rw [e]
  rfl
noncomputable def impl_UndoRun_c1.con (N : Nat) : Con := { modes := [.v], ptrs := [false], fn := fun ds k => match ds with | [d0] => castDm (.sl 2 (.int .i64)) .imm d0 fun x0 => bindO (impl_UndoRun_c1 N x0) fun r => k [⟨.bool, .imm, r⟩] [] | _ => none }
noncomputable def impl_UndoRun_c1.cfg (N : Nat) : Cfg := { ty := tys, keep := [4], flt := [], elm := [(22, (.own .imm)), (23, (.own .imm)), (24, (.pr (.own .imm) .imm)), (25, (.pr (.own .imm) .imm)), (26, (.own (.own .imm))), (29, (.own (.pr (.own .imm) .imm))), (30, (.pr (.own (.pr (.own .imm) .imm)) (.pr (.own (.pr (.own .imm) .imm)) .imm))), (31, (.pr (.own (.pr (.own .imm) .imm)) (.pr (.own (.pr (.own .imm) .imm)) .imm))), (32, (.pr (.pr (.own (.pr (.own .imm) .imm)) (.pr (.own (.pr (.own .imm) .imm)) .imm)) (.pr (.pr (.own .imm) .imm) .imm))), (33, (.pr (.pr (.own (.pr (.own .imm) .imm)) (.pr (.own (.pr (.own .imm) .imm)) .imm)) (.pr (.pr (.own .imm) .imm) .imm))), (44, (.pr (.own .imm) .imm)), (45, (.pr (.own .imm) .imm)), (52, (.pr (.pr (.own .imm) .imm) (.pr (.own .imm) .imm))), (53, (.pr (.pr (.own .imm) .imm) (.pr (.own .imm) .imm)))], live := [], ord := [], con := [((25, [.one]), impl_PointsRight.con N)], loops := [], joins := [] }
theorem impl_UndoRun_c1.cons (N : Nat) : ConsOk Try.prog (impl_UndoRun_c1.cfg N).con := (consOk_cons (hb25) (impl_PointsRight.ok N) (impl_PointsRight.det N) consOk_nil)
theorem impl_UndoRun_c1.ls (N : Nat) : LoopsOk Try.prog (impl_UndoRun_c1.cfg N) (fnBody Try.f24) := loopsL (l := []) (by kernel_rfl) trivial
theorem impl_UndoRun_c1.b (N : Nat) (x0 : den (.sl 2 (.int .i64))) : body (impl_UndoRun_c1.cfg N) N Try.f24 [.one] [.v] [(false, .imm)] [⟨(.sl 2 (.int .i64)), .imm, x0⟩] (fun r i => some (r, i)) = bindO (impl_UndoRun_c1 N x0) fun r => some ([⟨.bool, .imm, r⟩], []) := by
  show _ = bindF _ _
  conv => rhs; simp only [impl_UndoRun_c1, bindF_ifB, bindF_bindO, bindF_pure, bindF_none, bindF_onSum]
  kernel_rfl
theorem impl_UndoRun_c1.ok (N : Nat) : ConOk Try.prog 24 [.one] (impl_UndoRun_c1.con N) := by
  refine conOk_mk (g := impl_UndoRun_c1.cfg N) (N := N) (res := [(false, .imm)]) tys_ok (impl_UndoRun_c1.cons N) mixed Try.func24 (impl_UndoRun_c1.ls N) rfl rfl ?_
  intro ds R k y h
  cases ds with
  | nil => exact none_some h
  | cons d0 ds =>
  cases ds with
  | cons _ _ => exact none_some h
  | nil =>
  have h0 : (castDm (.sl 2 (.int .i64)) .imm d0 fun x0 => bindO (impl_UndoRun_c1 N x0) fun r => k [⟨.bool, .imm, r⟩] []) = some y := h
  clear h
  obtain ⟨x0, rfl, h1⟩ := castDm_eq h0
  exact con_fin (impl_UndoRun_c1.b N x0) h1
theorem impl_UndoRun_c1.det (N : Nat) : ConDet (impl_UndoRun_c1.con N) := by
  intro ds R k y h
  cases ds with
  | nil => exact none_some h
  | cons d0 ds =>
  cases ds with
  | cons _ _ => exact none_some h
  | nil =>
  have h0 : (castDm (.sl 2 (.int .i64)) .imm d0 fun x0 => bindO (impl_UndoRun_c1 N x0) fun r => k [⟨.bool, .imm, r⟩] []) = some y := h
  clear h
  obtain ⟨x0, rfl, h1⟩ := castDm_eq h0
  obtain ⟨r, e, h⟩ := bindO_some h1
  refine ⟨_, _, h, fun k' => ?_⟩
  show (castDm (.sl 2 (.int .i64)) .imm (⟨(.sl 2 (.int .i64)), .imm, x0⟩ : Dy) fun x0 => bindO (impl_UndoRun_c1 N x0) fun r => k' [⟨.bool, .imm, r⟩] []) = _
  simp only [castDm_self]
  rw [e]
  rfl
end Go.AE.F
