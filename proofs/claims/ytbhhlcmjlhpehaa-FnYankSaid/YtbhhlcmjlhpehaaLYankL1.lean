/- The printed functions are what the program comes to: contracts. -/
import Derived.Test.YtbhhlcmjlhpehaaLYankL0
namespace Go.AE.F
open Go.AE Go.Proofs
set_option maxRecDepth 100000
noncomputable def spec_BufRight.con (N : Nat) : Con := { modes := [.v], ptrs := [false], fn := fun ds k => match ds with | [d0] => castDm (.pair (.sl 2 (.int .i64)) (.pair (.int .i64) (.pair (.int .i64) .unit))) .imm d0 fun x0 => bindO (spec_BufRight N x0) fun r => k [⟨.bool, .imm, r⟩] [] | _ => none }
noncomputable def spec_BufRight.cfg (N : Nat) : Cfg := { ty := tys, keep := [9], flt := [], elm := [(22, (.own .imm)), (23, (.own (.own .imm))), (24, (.pr (.own (.own .imm)) .imm)), (25, (.pr (.own (.own .imm)) .imm)), (26, (.own .imm)), (27, (.pr (.own .imm) .imm)), (28, (.pr (.own .imm) .imm)), (31, (.pr (.pr (.own .imm) .imm) .imm)), (32, (.pr (.pr (.own .imm) .imm) .imm)), (45, (.pr (.pr (.own .imm) .imm) (.pr (.own .imm) .imm))), (46, (.pr (.pr (.own .imm) .imm) (.pr (.own .imm) .imm))), (54, (.pr (.own .imm) .imm)), (55, (.pr (.own .imm) .imm))], live := [], ord := [], con := [((32, [.one]), spec_PointsRight.con N)], loops := [], joins := [] }
theorem spec_BufRight.cons (N : Nat) : ConsOk Try.prog (spec_BufRight.cfg N).con := (consOk_cons (hb32) (spec_PointsRight.ok N) (spec_PointsRight.det N) consOk_nil)
theorem spec_BufRight.ls (N : Nat) : LoopsOk Try.prog (spec_BufRight.cfg N) (fnBody Try.f16) := loopsL (l := []) (by kernel_rfl) trivial
theorem spec_BufRight.b (N : Nat) (x0 : den (.pair (.sl 2 (.int .i64)) (.pair (.int .i64) (.pair (.int .i64) .unit)))) : body (spec_BufRight.cfg N) N Try.f16 [.one] [.v] [(false, .imm)] [⟨(.pair (.sl 2 (.int .i64)) (.pair (.int .i64) (.pair (.int .i64) .unit))), .imm, x0⟩] (fun r i => some (r, i)) = bindO (spec_BufRight N x0) fun r => some ([⟨.bool, .imm, r⟩], []) := by
  show _ = bindF _ _
  conv => rhs; simp only [spec_BufRight, bindF_ifB, bindF_bindO, bindF_pure, bindF_none, bindF_onSum]
  kernel_rfl
theorem spec_BufRight.ok (N : Nat) : ConOk Try.prog 16 [.one] (spec_BufRight.con N) := by
  refine conOk_mk (g := spec_BufRight.cfg N) (N := N) (res := [(false, .imm)]) tys_ok (spec_BufRight.cons N) mixed Try.func16 (spec_BufRight.ls N) rfl rfl ?_
  intro ds R k y h
  cases ds with
  | nil => exact none_some h
  | cons d0 ds =>
  cases ds with
  | cons _ _ => exact none_some h
  | nil =>
  have h0 : (castDm (.pair (.sl 2 (.int .i64)) (.pair (.int .i64) (.pair (.int .i64) .unit))) .imm d0 fun x0 => bindO (spec_BufRight N x0) fun r => k [⟨.bool, .imm, r⟩] []) = some y := h
  clear h
  obtain ⟨x0, rfl, h1⟩ := castDm_eq h0
  exact con_fin (spec_BufRight.b N x0) h1
theorem spec_BufRight.det (N : Nat) : ConDet (spec_BufRight.con N) := by
  intro ds R k y h
  cases ds with
  | nil => exact none_some h
  | cons d0 ds =>
  cases ds with
  | cons _ _ => exact none_some h
  | nil =>
  have h0 : (castDm (.pair (.sl 2 (.int .i64)) (.pair (.int .i64) (.pair (.int .i64) .unit))) .imm d0 fun x0 => bindO (spec_BufRight N x0) fun r => k [⟨.bool, .imm, r⟩] []) = some y := h
  clear h
  obtain ⟨x0, rfl, h1⟩ := castDm_eq h0
  obtain ⟨r, e, h⟩ := bindO_some h1
  refine ⟨_, _, h, fun k' => ?_⟩
  show (castDm (.pair (.sl 2 (.int .i64)) (.pair (.int .i64) (.pair (.int .i64) .unit))) .imm (⟨(.pair (.sl 2 (.int .i64)) (.pair (.int .i64) (.pair (.int .i64) .unit))), .imm, x0⟩ : Dy) fun x0 => bindO (spec_BufRight N x0) fun r => k' [⟨.bool, .imm, r⟩] []) = _
  simp only [castDm_self]
  rw [e]
  rfl
noncomputable def spec_l01Copy.con (N : Nat) : Con := { modes := [.v], ptrs := [false], fn := fun ds k => match ds with | [d0] => castDm (.sl 2 (.int .i64)) .imm d0 fun x0 => bindO (spec_l01Copy N x0) fun r => k [⟨(.sl 2 (.int .i64)), (.own .imm), r⟩] [] | _ => none }
noncomputable def spec_l01Copy.cfg (N : Nat) : Cfg := { ty := tys, keep := [], flt := [], elm := [(22, (.own .imm)), (23, (.own (.own .imm))), (24, (.pr (.own (.own .imm)) .imm)), (25, (.pr (.own (.own .imm)) .imm)), (26, (.own .imm)), (27, (.pr (.own .imm) .imm)), (28, (.pr (.own .imm) .imm)), (31, (.pr (.pr (.own .imm) .imm) .imm)), (32, (.pr (.pr (.own .imm) .imm) .imm)), (45, (.pr (.pr (.own .imm) .imm) (.pr (.own .imm) .imm))), (46, (.pr (.pr (.own .imm) .imm) (.pr (.own .imm) .imm))), (54, (.pr (.own .imm) .imm)), (55, (.pr (.own .imm) .imm))], live := [], ord := [], con := [], loops := [], joins := [] }
theorem spec_l01Copy.cons (N : Nat) : ConsOk Try.prog (spec_l01Copy.cfg N).con := consOk_nil
theorem spec_l01Copy.ls (N : Nat) : LoopsOk Try.prog (spec_l01Copy.cfg N) (fnBody Try.f33) := loopsL (l := []) (by kernel_rfl) trivial
theorem spec_l01Copy.b (N : Nat) (x0 : den (.sl 2 (.int .i64))) : body (spec_l01Copy.cfg N) N Try.f33 [.one] [.v] [(false, (.own .imm))] [⟨(.sl 2 (.int .i64)), .imm, x0⟩] (fun r i => some (r, i)) = bindO (spec_l01Copy N x0) fun r => some ([⟨(.sl 2 (.int .i64)), (.own .imm), r⟩], []) := by
  show _ = bindF _ _
  conv => rhs; simp only [spec_l01Copy, bindF_ifB, bindF_bindO, bindF_pure, bindF_none, bindF_onSum]
  kernel_rfl
theorem spec_l01Copy.ok (N : Nat) : ConOk Try.prog 33 [.one] (spec_l01Copy.con N) := by
  refine conOk_mk (g := spec_l01Copy.cfg N) (N := N) (res := [(false, (.own .imm))]) tys_ok (spec_l01Copy.cons N) mixed Try.func33 (spec_l01Copy.ls N) rfl rfl ?_
  intro ds R k y h
  cases ds with
  | nil => exact none_some h
  | cons d0 ds =>
  cases ds with
  | cons _ _ => exact none_some h
  | nil =>
  have h0 : (castDm (.sl 2 (.int .i64)) .imm d0 fun x0 => bindO (spec_l01Copy N x0) fun r => k [⟨(.sl 2 (.int .i64)), (.own .imm), r⟩] []) = some y := h
  clear h
  obtain ⟨x0, rfl, h1⟩ := castDm_eq h0
  exact con_fin (spec_l01Copy.b N x0) h1
theorem spec_l01Copy.det (N : Nat) : ConDet (spec_l01Copy.con N) := by
  intro ds R k y h
  cases ds with
  | nil => exact none_some h
  | cons d0 ds =>
  cases ds with
  | cons _ _ => exact none_some h
  | nil =>
  have h0 : (castDm (.sl 2 (.int .i64)) .imm d0 fun x0 => bindO (spec_l01Copy N x0) fun r => k [⟨(.sl 2 (.int .i64)), (.own .imm), r⟩] []) = some y := h
  clear h
  obtain ⟨x0, rfl, h1⟩ := castDm_eq h0
  obtain ⟨r, e, h⟩ := bindO_some h1
  refine ⟨_, _, h, fun k' => ?_⟩
  show (castDm (.sl 2 (.int .i64)) .imm (⟨(.sl 2 (.int .i64)), .imm, x0⟩ : Dy) fun x0 => bindO (spec_l01Copy N x0) fun r => k' [⟨(.sl 2 (.int .i64)), (.own .imm), r⟩] []) = _
  simp only [castDm_self]
  rw [e]
  rfl
noncomputable def spec_RingTop.con (N : Nat) : Con := { modes := [.v], ptrs := [false], fn := fun ds k => match ds with | [d0] => castDm (.pair (.sl 26 (.sl 2 (.int .i64))) (.pair (.int .i64) .unit)) .imm d0 fun x0 => bindO (spec_RingTop N x0) fun r => k [⟨(.sl 2 (.int .i64)), (.own .imm), r⟩] [] | _ => none }
noncomputable def spec_RingTop.cfg (N : Nat) : Cfg := { ty := tys, keep := [4, 19], flt := [], elm := [(22, (.own .imm)), (23, (.own (.own .imm))), (24, (.pr (.own (.own .imm)) .imm)), (25, (.pr (.own (.own .imm)) .imm)), (26, (.own .imm)), (27, (.pr (.own .imm) .imm)), (28, (.pr (.own .imm) .imm)), (31, (.pr (.pr (.own .imm) .imm) .imm)), (32, (.pr (.pr (.own .imm) .imm) .imm)), (45, (.pr (.pr (.own .imm) .imm) (.pr (.own .imm) .imm))), (46, (.pr (.pr (.own .imm) .imm) (.pr (.own .imm) .imm))), (54, (.pr (.own .imm) .imm)), (55, (.pr (.own .imm) .imm))], live := [], ord := [], con := [((15, [.one]), spec_RingRight.con N), ((33, [.one]), spec_l01Copy.con N)], loops := [], joins := [] }
theorem spec_RingTop.cons (N : Nat) : ConsOk Try.prog (spec_RingTop.cfg N).con := (consOk_cons (hb15) (spec_RingRight.ok N) (spec_RingRight.det N) (consOk_cons (hb33) (spec_l01Copy.ok N) (spec_l01Copy.det N) consOk_nil))
theorem spec_RingTop.ls (N : Nat) : LoopsOk Try.prog (spec_RingTop.cfg N) (fnBody Try.f17) := loopsL (l := []) (by kernel_rfl) trivial
theorem spec_RingTop.b (N : Nat) (x0 : den (.pair (.sl 26 (.sl 2 (.int .i64))) (.pair (.int .i64) .unit))) : body (spec_RingTop.cfg N) N Try.f17 [.one] [.v] [(false, (.own .imm))] [⟨(.pair (.sl 26 (.sl 2 (.int .i64))) (.pair (.int .i64) .unit)), .imm, x0⟩] (fun r i => some (r, i)) = bindO (spec_RingTop N x0) fun r => some ([⟨(.sl 2 (.int .i64)), (.own .imm), r⟩], []) := by
  show _ = bindF _ _
  conv => rhs; simp only [spec_RingTop, bindF_ifB, bindF_bindO, bindF_pure, bindF_none, bindF_onSum]
  kernel_rfl
theorem spec_RingTop.ok (N : Nat) : ConOk Try.prog 17 [.one] (spec_RingTop.con N) := by
  refine conOk_mk (g := spec_RingTop.cfg N) (N := N) (res := [(false, (.own .imm))]) tys_ok (spec_RingTop.cons N) mixed Try.func17 (spec_RingTop.ls N) rfl rfl ?_
  intro ds R k y h
  cases ds with
  | nil => exact none_some h
  | cons d0 ds =>
  cases ds with
  | cons _ _ => exact none_some h
  | nil =>
  have h0 : (castDm (.pair (.sl 26 (.sl 2 (.int .i64))) (.pair (.int .i64) .unit)) .imm d0 fun x0 => bindO (spec_RingTop N x0) fun r => k [⟨(.sl 2 (.int .i64)), (.own .imm), r⟩] []) = some y := h
  clear h
  obtain ⟨x0, rfl, h1⟩ := castDm_eq h0
  exact con_fin (spec_RingTop.b N x0) h1
theorem spec_RingTop.det (N : Nat) : ConDet (spec_RingTop.con N) := by
  intro ds R k y h
  cases ds with
  | nil => exact none_some h
  | cons d0 ds =>
  cases ds with
  | cons _ _ => exact none_some h
  | nil =>
  have h0 : (castDm (.pair (.sl 26 (.sl 2 (.int .i64))) (.pair (.int .i64) .unit)) .imm d0 fun x0 => bindO (spec_RingTop N x0) fun r => k [⟨(.sl 2 (.int .i64)), (.own .imm), r⟩] []) = some y := h
  clear h
  obtain ⟨x0, rfl, h1⟩ := castDm_eq h0
  obtain ⟨r, e, h⟩ := bindO_some h1
  refine ⟨_, _, h, fun k' => ?_⟩
  show (castDm (.pair (.sl 26 (.sl 2 (.int .i64))) (.pair (.int .i64) .unit)) .imm (⟨(.pair (.sl 26 (.sl 2 (.int .i64))) (.pair (.int .i64) .unit)), .imm, x0⟩ : Dy) fun x0 => bindO (spec_RingTop N x0) fun r => k' [⟨(.sl 2 (.int .i64)), (.own .imm), r⟩] []) = _
  simp only [castDm_self]
  rw [e]
  rfl
noncomputable def spec_l02Moved.con (N : Nat) : Con := { modes := [.v, .v, .v, .v], ptrs := [false], fn := fun ds k => match ds with | [d0, d1, d2, d3] => castDm (.int .i64) .imm d0 fun x0 => castDm (.int .i64) .imm d1 fun x1 => castDm (.int .i64) .imm d2 fun x2 => castDm (.int .i64) .imm d3 fun x3 => bindO (spec_l02Moved N x0 x1 x2 x3) fun r => k [⟨(.int .i64), .imm, r⟩] [] | _ => none }
noncomputable def spec_l02Moved.cfg (N : Nat) : Cfg := { ty := tys, keep := [], flt := [], elm := [(22, (.own .imm)), (23, (.own (.own .imm))), (24, (.pr (.own (.own .imm)) .imm)), (25, (.pr (.own (.own .imm)) .imm)), (26, (.own .imm)), (27, (.pr (.own .imm) .imm)), (28, (.pr (.own .imm) .imm)), (31, (.pr (.pr (.own .imm) .imm) .imm)), (32, (.pr (.pr (.own .imm) .imm) .imm)), (45, (.pr (.pr (.own .imm) .imm) (.pr (.own .imm) .imm))), (46, (.pr (.pr (.own .imm) .imm) (.pr (.own .imm) .imm))), (54, (.pr (.own .imm) .imm)), (55, (.pr (.own .imm) .imm))], live := [], ord := [], con := [], loops := [], joins := [] }
theorem spec_l02Moved.cons (N : Nat) : ConsOk Try.prog (spec_l02Moved.cfg N).con := consOk_nil
theorem spec_l02Moved.ls (N : Nat) : LoopsOk Try.prog (spec_l02Moved.cfg N) (fnBody Try.f40) := loopsL (l := []) (by kernel_rfl) trivial
theorem spec_l02Moved.b (N : Nat) (x0 : den (.int .i64)) (x1 : den (.int .i64)) (x2 : den (.int .i64)) (x3 : den (.int .i64)) : body (spec_l02Moved.cfg N) N Try.f40 [.one, .one, .one, .one] [.v, .v, .v, .v] [(false, .imm)] [⟨(.int .i64), .imm, x0⟩, ⟨(.int .i64), .imm, x1⟩, ⟨(.int .i64), .imm, x2⟩, ⟨(.int .i64), .imm, x3⟩] (fun r i => some (r, i)) = bindO (spec_l02Moved N x0 x1 x2 x3) fun r => some ([⟨(.int .i64), .imm, r⟩], []) := by
  show _ = bindF _ _
  conv => rhs; simp only [spec_l02Moved, bindF_ifB, bindF_bindO, bindF_pure, bindF_none, bindF_onSum]
  kernel_rfl
theorem spec_l02Moved.ok (N : Nat) : ConOk Try.prog 40 [.one, .one, .one, .one] (spec_l02Moved.con N) := by
  refine conOk_mk (g := spec_l02Moved.cfg N) (N := N) (res := [(false, .imm)]) tys_ok (spec_l02Moved.cons N) mixed Try.func40 (spec_l02Moved.ls N) rfl rfl ?_
  intro ds R k y h
  cases ds with
  | nil => exact none_some h
  | cons d0 ds =>
  cases ds with
  | nil => exact none_some h
  | cons d1 ds =>
  cases ds with
  | nil => exact none_some h
  | cons d2 ds =>
  cases ds with
  | nil => exact none_some h
  | cons d3 ds =>
  cases ds with
  | cons _ _ => exact none_some h
  | nil =>
  have h0 : (castDm (.int .i64) .imm d0 fun x0 => castDm (.int .i64) .imm d1 fun x1 => castDm (.int .i64) .imm d2 fun x2 => castDm (.int .i64) .imm d3 fun x3 => bindO (spec_l02Moved N x0 x1 x2 x3) fun r => k [⟨(.int .i64), .imm, r⟩] []) = some y := h
  clear h
  obtain ⟨x0, rfl, h1⟩ := castDm_eq h0
  obtain ⟨x1, rfl, h2⟩ := castDm_eq h1
  obtain ⟨x2, rfl, h3⟩ := castDm_eq h2
  obtain ⟨x3, rfl, h4⟩ := castDm_eq h3
  exact con_fin (spec_l02Moved.b N x0 x1 x2 x3) h4
theorem spec_l02Moved.det (N : Nat) : ConDet (spec_l02Moved.con N) := by
  intro ds R k y h
  cases ds with
  | nil => exact none_some h
  | cons d0 ds =>
  cases ds with
  | nil => exact none_some h
  | cons d1 ds =>
  cases ds with
  | nil => exact none_some h
  | cons d2 ds =>
  cases ds with
  | nil => exact none_some h
  | cons d3 ds =>
  cases ds with
  | cons _ _ => exact none_some h
  | nil =>
  have h0 : (castDm (.int .i64) .imm d0 fun x0 => castDm (.int .i64) .imm d1 fun x1 => castDm (.int .i64) .imm d2 fun x2 => castDm (.int .i64) .imm d3 fun x3 => bindO (spec_l02Moved N x0 x1 x2 x3) fun r => k [⟨(.int .i64), .imm, r⟩] []) = some y := h
  clear h
  obtain ⟨x0, rfl, h1⟩ := castDm_eq h0
  obtain ⟨x1, rfl, h2⟩ := castDm_eq h1
  obtain ⟨x2, rfl, h3⟩ := castDm_eq h2
  obtain ⟨x3, rfl, h4⟩ := castDm_eq h3
  obtain ⟨r, e, h⟩ := bindO_some h4
  refine ⟨_, _, h, fun k' => ?_⟩
  show (castDm (.int .i64) .imm (⟨(.int .i64), .imm, x0⟩ : Dy) fun x0 => castDm (.int .i64) .imm (⟨(.int .i64), .imm, x1⟩ : Dy) fun x1 => castDm (.int .i64) .imm (⟨(.int .i64), .imm, x2⟩ : Dy) fun x2 => castDm (.int .i64) .imm (⟨(.int .i64), .imm, x3⟩ : Dy) fun x3 => bindO (spec_l02Moved N x0 x1 x2 x3) fun r => k' [⟨(.int .i64), .imm, r⟩] []) = _
  simp only [castDm_self]
  rw [e]
  rfl
noncomputable def spec_BufReplace.con (N : Nat) : Con := { modes := [.v, .v, .v, .v], ptrs := [false], fn := fun ds k => match ds with | [d0, d1, d2, d3] => castDm (.pair (.sl 2 (.int .i64)) (.pair (.int .i64) (.pair (.int .i64) .unit))) .imm d0 fun x0 => castDm (.int .i64) .imm d1 fun x1 => castDm (.int .i64) .imm d2 fun x2 => castDm (.sl 2 (.int .i64)) .imm d3 fun x3 => bindO (spec_BufReplace N x0 x1 x2 x3) fun r => k [⟨(.pair (.pair (.sl 2 (.int .i64)) (.pair (.int .i64) (.pair (.int .i64) .unit))) (.pair (.sl 2 (.int .i64)) (.pair (.int .i64) .unit))), (.pr (.pr (.own .imm) .imm) (.pr (.own .imm) .imm)), r⟩] [] | _ => none }
noncomputable def spec_BufReplace.cfg (N : Nat) : Cfg := { ty := tys, keep := [18, 22, 63, 69, 75, 103], flt := [], elm := [(22, (.own .imm)), (23, (.own (.own .imm))), (24, (.pr (.own (.own .imm)) .imm)), (25, (.pr (.own (.own .imm)) .imm)), (26, (.own .imm)), (27, (.pr (.own .imm) .imm)), (28, (.pr (.own .imm) .imm)), (31, (.pr (.pr (.own .imm) .imm) .imm)), (32, (.pr (.pr (.own .imm) .imm) .imm)), (45, (.pr (.pr (.own .imm) .imm) (.pr (.own .imm) .imm))), (46, (.pr (.pr (.own .imm) .imm) (.pr (.own .imm) .imm))), (54, (.pr (.own .imm) .imm)), (55, (.pr (.own .imm) .imm))], live := [], ord := [(12, [13, 0, 1, 2, 3, 4, 6, 7, 8, 9, 10, 5, 11, 12, 14]), (13, [0, 1, 2, 3, 5, 7, 8, 9, 10, 4, 6, 11, 12, 13]), (16, [0, 1, 2, 3, 4, 5, 6, 7, 8])], con := [((16, [.one]), spec_BufRight.con N), ((32, [.one]), spec_PointsRight.con N), ((40, [.one, .one, .one, .one]), spec_l02Moved.con N), ((33, [.one]), spec_l01Copy.con N)], loops := [], joins := [] }
theorem spec_BufReplace.cons (N : Nat) : ConsOk Try.prog (spec_BufReplace.cfg N).con := (consOk_cons (hb16) (spec_BufRight.ok N) (spec_BufRight.det N) (consOk_cons (hb32) (spec_PointsRight.ok N) (spec_PointsRight.det N) (consOk_cons (hb40) (spec_l02Moved.ok N) (spec_l02Moved.det N) (consOk_cons (hb33) (spec_l01Copy.ok N) (spec_l01Copy.det N) consOk_nil))))
theorem spec_BufReplace.ls (N : Nat) : LoopsOk Try.prog (spec_BufReplace.cfg N) (fnBody Try.f26) := loopsL (l := []) (by kernel_rfl) trivial
theorem spec_BufReplace.b (N : Nat) (x0 : den (.pair (.sl 2 (.int .i64)) (.pair (.int .i64) (.pair (.int .i64) .unit)))) (x1 : den (.int .i64)) (x2 : den (.int .i64)) (x3 : den (.sl 2 (.int .i64))) : body (spec_BufReplace.cfg N) N Try.f26 [.one, .one, .one, .one] [.v, .v, .v, .v] [(false, (.pr (.pr (.own .imm) .imm) (.pr (.own .imm) .imm)))] [⟨(.pair (.sl 2 (.int .i64)) (.pair (.int .i64) (.pair (.int .i64) .unit))), .imm, x0⟩, ⟨(.int .i64), .imm, x1⟩, ⟨(.int .i64), .imm, x2⟩, ⟨(.sl 2 (.int .i64)), .imm, x3⟩] (fun r i => some (r, i)) = bindO (spec_BufReplace N x0 x1 x2 x3) fun r => some ([⟨(.pair (.pair (.sl 2 (.int .i64)) (.pair (.int .i64) (.pair (.int .i64) .unit))) (.pair (.sl 2 (.int .i64)) (.pair (.int .i64) .unit))), (.pr (.pr (.own .imm) .imm) (.pr (.own .imm) .imm)), r⟩], []) := by
  show _ = bindF _ _
  conv => rhs; simp only [spec_BufReplace, bindF_ifB, bindF_bindO, bindF_pure, bindF_none, bindF_onSum]
  kernel_rfl
theorem spec_BufReplace.ok (N : Nat) : ConOk Try.prog 26 [.one, .one, .one, .one] (spec_BufReplace.con N) := by
  refine conOk_mk (g := spec_BufReplace.cfg N) (N := N) (res := [(false, (.pr (.pr (.own .imm) .imm) (.pr (.own .imm) .imm)))]) tys_ok (spec_BufReplace.cons N) mixed Try.func26 (spec_BufReplace.ls N) rfl rfl ?_
  intro ds R k y h
  cases ds with
  | nil => exact none_some h
  | cons d0 ds =>
  cases ds with
  | nil => exact none_some h
  | cons d1 ds =>
  cases ds with
  | nil => exact none_some h
  | cons d2 ds =>
  cases ds with
  | nil => exact none_some h
  | cons d3 ds =>
  cases ds with
  | cons _ _ => exact none_some h
  | nil =>
  have h0 : (castDm (.pair (.sl 2 (.int .i64)) (.pair (.int .i64) (.pair (.int .i64) .unit))) .imm d0 fun x0 => castDm (.int .i64) .imm d1 fun x1 => castDm (.int .i64) .imm d2 fun x2 => castDm (.sl 2 (.int .i64)) .imm d3 fun x3 => bindO (spec_BufReplace N x0 x1 x2 x3) fun r => k [⟨(.pair (.pair (.sl 2 (.int .i64)) (.pair (.int .i64) (.pair (.int .i64) .unit))) (.pair (.sl 2 (.int .i64)) (.pair (.int .i64) .unit))), (.pr (.pr (.own .imm) .imm) (.pr (.own .imm) .imm)), r⟩] []) = some y := h
  clear h
  obtain ⟨x0, rfl, h1⟩ := castDm_eq h0
  obtain ⟨x1, rfl, h2⟩ := castDm_eq h1
  obtain ⟨x2, rfl, h3⟩ := castDm_eq h2
  obtain ⟨x3, rfl, h4⟩ := castDm_eq h3
  exact con_fin (spec_BufReplace.b N x0 x1 x2 x3) h4
theorem spec_BufReplace.det (N : Nat) : ConDet (spec_BufReplace.con N) := by
  intro ds R k y h
  cases ds with
  | nil => exact none_some h
  | cons d0 ds =>
  cases ds with
  | nil => exact none_some h
  | cons d1 ds =>
  cases ds with
  | nil => exact none_some h
  | cons d2 ds =>
  cases ds with
  | nil => exact none_some h
  | cons d3 ds =>
  cases ds with
  | cons _ _ => exact none_some h
  | nil =>
  have h0 : (castDm (.pair (.sl 2 (.int .i64)) (.pair (.int .i64) (.pair (.int .i64) .unit))) .imm d0 fun x0 => castDm (.int .i64) .imm d1 fun x1 => castDm (.int .i64) .imm d2 fun x2 => castDm (.sl 2 (.int .i64)) .imm d3 fun x3 => bindO (spec_BufReplace N x0 x1 x2 x3) fun r => k [⟨(.pair (.pair (.sl 2 (.int .i64)) (.pair (.int .i64) (.pair (.int .i64) .unit))) (.pair (.sl 2 (.int .i64)) (.pair (.int .i64) .unit))), (.pr (.pr (.own .imm) .imm) (.pr (.own .imm) .imm)), r⟩] []) = some y := h
  clear h
  obtain ⟨x0, rfl, h1⟩ := castDm_eq h0
  obtain ⟨x1, rfl, h2⟩ := castDm_eq h1
  obtain ⟨x2, rfl, h3⟩ := castDm_eq h2
  obtain ⟨x3, rfl, h4⟩ := castDm_eq h3
  obtain ⟨r, e, h⟩ := bindO_some h4
  refine ⟨_, _, h, fun k' => ?_⟩
  show (castDm (.pair (.sl 2 (.int .i64)) (.pair (.int .i64) (.pair (.int .i64) .unit))) .imm (⟨(.pair (.sl 2 (.int .i64)) (.pair (.int .i64) (.pair (.int .i64) .unit))), .imm, x0⟩ : Dy) fun x0 => castDm (.int .i64) .imm (⟨(.int .i64), .imm, x1⟩ : Dy) fun x1 => castDm (.int .i64) .imm (⟨(.int .i64), .imm, x2⟩ : Dy) fun x2 => castDm (.sl 2 (.int .i64)) .imm (⟨(.sl 2 (.int .i64)), .imm, x3⟩ : Dy) fun x3 => bindO (spec_BufReplace N x0 x1 x2 x3) fun r => k' [⟨(.pair (.pair (.sl 2 (.int .i64)) (.pair (.int .i64) (.pair (.int .i64) .unit))) (.pair (.sl 2 (.int .i64)) (.pair (.int .i64) .unit))), (.pr (.pr (.own .imm) .imm) (.pr (.own .imm) .imm)), r⟩] []) = _
  simp only [castDm_self]
  rw [e]
  rfl
noncomputable def spec_BufInsert.con (N : Nat) : Con := { modes := [.v, .v], ptrs := [false], fn := fun ds k => match ds with | [d0, d1] => castDm (.pair (.sl 2 (.int .i64)) (.pair (.int .i64) (.pair (.int .i64) .unit))) .imm d0 fun x0 => castDm (.sl 2 (.int .i64)) .imm d1 fun x1 => bindO (spec_BufInsert N x0 x1) fun r => k [⟨(.pair (.pair (.sl 2 (.int .i64)) (.pair (.int .i64) (.pair (.int .i64) .unit))) (.pair (.sl 2 (.int .i64)) (.pair (.int .i64) .unit))), (.pr (.pr (.own .imm) .imm) (.pr (.own .imm) .imm)), r⟩] [] | _ => none }
noncomputable def spec_BufInsert.cfg (N : Nat) : Cfg := { ty := tys, keep := [11], flt := [], elm := [(22, (.own .imm)), (23, (.own (.own .imm))), (24, (.pr (.own (.own .imm)) .imm)), (25, (.pr (.own (.own .imm)) .imm)), (26, (.own .imm)), (27, (.pr (.own .imm) .imm)), (28, (.pr (.own .imm) .imm)), (31, (.pr (.pr (.own .imm) .imm) .imm)), (32, (.pr (.pr (.own .imm) .imm) .imm)), (45, (.pr (.pr (.own .imm) .imm) (.pr (.own .imm) .imm))), (46, (.pr (.pr (.own .imm) .imm) (.pr (.own .imm) .imm))), (54, (.pr (.own .imm) .imm)), (55, (.pr (.own .imm) .imm))], live := [], ord := [], con := [((26, [.one, .one, .one, .one]), spec_BufReplace.con N)], loops := [], joins := [] }
theorem spec_BufInsert.cons (N : Nat) : ConsOk Try.prog (spec_BufInsert.cfg N).con := (consOk_cons (hb26) (spec_BufReplace.ok N) (spec_BufReplace.det N) consOk_nil)
theorem spec_BufInsert.ls (N : Nat) : LoopsOk Try.prog (spec_BufInsert.cfg N) (fnBody Try.f18) := loopsL (l := []) (by kernel_rfl) trivial
theorem spec_BufInsert.b (N : Nat) (x0 : den (.pair (.sl 2 (.int .i64)) (.pair (.int .i64) (.pair (.int .i64) .unit)))) (x1 : den (.sl 2 (.int .i64))) : body (spec_BufInsert.cfg N) N Try.f18 [.one, .one] [.v, .v] [(false, (.pr (.pr (.own .imm) .imm) (.pr (.own .imm) .imm)))] [⟨(.pair (.sl 2 (.int .i64)) (.pair (.int .i64) (.pair (.int .i64) .unit))), .imm, x0⟩, ⟨(.sl 2 (.int .i64)), .imm, x1⟩] (fun r i => some (r, i)) = bindO (spec_BufInsert N x0 x1) fun r => some ([⟨(.pair (.pair (.sl 2 (.int .i64)) (.pair (.int .i64) (.pair (.int .i64) .unit))) (.pair (.sl 2 (.int .i64)) (.pair (.int .i64) .unit))), (.pr (.pr (.own .imm) .imm) (.pr (.own .imm) .imm)), r⟩], []) := by
  show _ = bindF _ _
  conv => rhs; simp only [spec_BufInsert, bindF_ifB, bindF_bindO, bindF_pure, bindF_none, bindF_onSum]
  kernel_rfl
theorem spec_BufInsert.ok (N : Nat) : ConOk Try.prog 18 [.one, .one] (spec_BufInsert.con N) := by
  refine conOk_mk (g := spec_BufInsert.cfg N) (N := N) (res := [(false, (.pr (.pr (.own .imm) .imm) (.pr (.own .imm) .imm)))]) tys_ok (spec_BufInsert.cons N) mixed Try.func18 (spec_BufInsert.ls N) rfl rfl ?_
  intro ds R k y h
  cases ds with
  | nil => exact none_some h
  | cons d0 ds =>
  cases ds with
  | nil => exact none_some h
  | cons d1 ds =>
  cases ds with
  | cons _ _ => exact none_some h
  | nil =>
  have h0 : (castDm (.pair (.sl 2 (.int .i64)) (.pair (.int .i64) (.pair (.int .i64) .unit))) .imm d0 fun x0 => castDm (.sl 2 (.int .i64)) .imm d1 fun x1 => bindO (spec_BufInsert N x0 x1) fun r => k [⟨(.pair (.pair (.sl 2 (.int .i64)) (.pair (.int .i64) (.pair (.int .i64) .unit))) (.pair (.sl 2 (.int .i64)) (.pair (.int .i64) .unit))), (.pr (.pr (.own .imm) .imm) (.pr (.own .imm) .imm)), r⟩] []) = some y := h
  clear h
  obtain ⟨x0, rfl, h1⟩ := castDm_eq h0
  obtain ⟨x1, rfl, h2⟩ := castDm_eq h1
  exact con_fin (spec_BufInsert.b N x0 x1) h2
theorem spec_BufInsert.det (N : Nat) : ConDet (spec_BufInsert.con N) := by
  intro ds R k y h
  cases ds with
  | nil => exact none_some h
  | cons d0 ds =>
  cases ds with
  | nil => exact none_some h
  | cons d1 ds =>
  cases ds with
  | cons _ _ => exact none_some h
  | nil =>
  have h0 : (castDm (.pair (.sl 2 (.int .i64)) (.pair (.int .i64) (.pair (.int .i64) .unit))) .imm d0 fun x0 => castDm (.sl 2 (.int .i64)) .imm d1 fun x1 => bindO (spec_BufInsert N x0 x1) fun r => k [⟨(.pair (.pair (.sl 2 (.int .i64)) (.pair (.int .i64) (.pair (.int .i64) .unit))) (.pair (.sl 2 (.int .i64)) (.pair (.int .i64) .unit))), (.pr (.pr (.own .imm) .imm) (.pr (.own .imm) .imm)), r⟩] []) = some y := h
  clear h
  obtain ⟨x0, rfl, h1⟩ := castDm_eq h0
  obtain ⟨x1, rfl, h2⟩ := castDm_eq h1
  obtain ⟨r, e, h⟩ := bindO_some h2
  refine ⟨_, _, h, fun k' => ?_⟩
  show (castDm (.pair (.sl 2 (.int .i64)) (.pair (.int .i64) (.pair (.int .i64) .unit))) .imm (⟨(.pair (.sl 2 (.int .i64)) (.pair (.int .i64) (.pair (.int .i64) .unit))), .imm, x0⟩ : Dy) fun x0 => castDm (.sl 2 (.int .i64)) .imm (⟨(.sl 2 (.int .i64)), .imm, x1⟩ : Dy) fun x1 => bindO (spec_BufInsert N x0 x1) fun r => k' [⟨(.pair (.pair (.sl 2 (.int .i64)) (.pair (.int .i64) (.pair (.int .i64) .unit))) (.pair (.sl 2 (.int .i64)) (.pair (.int .i64) .unit))), (.pr (.pr (.own .imm) .imm) (.pr (.own .imm) .imm)), r⟩] []) = _
  simp only [castDm_self]
  rw [e]
  rfl
noncomputable def spec_RingYank.con (N : Nat) : Con := { modes := [.v, .v], ptrs := [false], fn := fun ds k => match ds with | [d0, d1] => castDm (.pair (.sl 26 (.sl 2 (.int .i64))) (.pair (.int .i64) .unit)) .imm d0 fun x0 => castDm (.pair (.sl 2 (.int .i64)) (.pair (.int .i64) (.pair (.int .i64) .unit))) .imm d1 fun x1 => bindO (spec_RingYank N x0 x1) fun r => k [⟨(.pair (.pair (.sl 2 (.int .i64)) (.pair (.int .i64) (.pair (.int .i64) .unit))) (.pair (.int .i64) (.pair (.int .i64) (.pair (.int .i64) .unit)))), (.pr (.pr (.own .imm) .imm) .imm), r⟩] [] | _ => none }
noncomputable def spec_RingYank.cfg (N : Nat) : Cfg := { ty := tys, keep := [8, 12, 22, 25], flt := [], elm := [(22, (.own .imm)), (23, (.own (.own .imm))), (24, (.pr (.own (.own .imm)) .imm)), (25, (.pr (.own (.own .imm)) .imm)), (26, (.own .imm)), (27, (.pr (.own .imm) .imm)), (28, (.pr (.own .imm) .imm)), (31, (.pr (.pr (.own .imm) .imm) .imm)), (32, (.pr (.pr (.own .imm) .imm) .imm)), (45, (.pr (.pr (.own .imm) .imm) (.pr (.own .imm) .imm))), (46, (.pr (.pr (.own .imm) .imm) (.pr (.own .imm) .imm))), (54, (.pr (.own .imm) .imm)), (55, (.pr (.own .imm) .imm))], live := [], ord := [], con := [((15, [.one]), spec_RingRight.con N), ((16, [.one]), spec_BufRight.con N), ((17, [.one]), spec_RingTop.con N), ((18, [.one, .one]), spec_BufInsert.con N)], loops := [], joins := [] }
theorem spec_RingYank.cons (N : Nat) : ConsOk Try.prog (spec_RingYank.cfg N).con := (consOk_cons (hb15) (spec_RingRight.ok N) (spec_RingRight.det N) (consOk_cons (hb16) (spec_BufRight.ok N) (spec_BufRight.det N) (consOk_cons (hb17) (spec_RingTop.ok N) (spec_RingTop.det N) (consOk_cons (hb18) (spec_BufInsert.ok N) (spec_BufInsert.det N) consOk_nil))))
theorem spec_RingYank.ls (N : Nat) : LoopsOk Try.prog (spec_RingYank.cfg N) (fnBody Try.f5) := loopsL (l := []) (by kernel_rfl) trivial
theorem spec_RingYank.b (N : Nat) (x0 : den (.pair (.sl 26 (.sl 2 (.int .i64))) (.pair (.int .i64) .unit))) (x1 : den (.pair (.sl 2 (.int .i64)) (.pair (.int .i64) (.pair (.int .i64) .unit)))) : body (spec_RingYank.cfg N) N Try.f5 [.one, .one] [.v, .v] [(false, (.pr (.pr (.own .imm) .imm) .imm))] [⟨(.pair (.sl 26 (.sl 2 (.int .i64))) (.pair (.int .i64) .unit)), .imm, x0⟩, ⟨(.pair (.sl 2 (.int .i64)) (.pair (.int .i64) (.pair (.int .i64) .unit))), .imm, x1⟩] (fun r i => some (r, i)) = bindO (spec_RingYank N x0 x1) fun r => some ([⟨(.pair (.pair (.sl 2 (.int .i64)) (.pair (.int .i64) (.pair (.int .i64) .unit))) (.pair (.int .i64) (.pair (.int .i64) (.pair (.int .i64) .unit)))), (.pr (.pr (.own .imm) .imm) .imm), r⟩], []) := by
  show _ = bindF _ _
  conv => rhs; simp only [spec_RingYank, bindF_ifB, bindF_bindO, bindF_pure, bindF_none, bindF_onSum]
  kernel_rfl
theorem spec_RingYank.ok (N : Nat) : ConOk Try.prog 5 [.one, .one] (spec_RingYank.con N) := by
  refine conOk_mk (g := spec_RingYank.cfg N) (N := N) (res := [(false, (.pr (.pr (.own .imm) .imm) .imm))]) tys_ok (spec_RingYank.cons N) mixed Try.func5 (spec_RingYank.ls N) rfl rfl ?_
  intro ds R k y h
  cases ds with
  | nil => exact none_some h
  | cons d0 ds =>
  cases ds with
  | nil => exact none_some h
  | cons d1 ds =>
  cases ds with
  | cons _ _ => exact none_some h
  | nil =>
  have h0 : (castDm (.pair (.sl 26 (.sl 2 (.int .i64))) (.pair (.int .i64) .unit)) .imm d0 fun x0 => castDm (.pair (.sl 2 (.int .i64)) (.pair (.int .i64) (.pair (.int .i64) .unit))) .imm d1 fun x1 => bindO (spec_RingYank N x0 x1) fun r => k [⟨(.pair (.pair (.sl 2 (.int .i64)) (.pair (.int .i64) (.pair (.int .i64) .unit))) (.pair (.int .i64) (.pair (.int .i64) (.pair (.int .i64) .unit)))), (.pr (.pr (.own .imm) .imm) .imm), r⟩] []) = some y := h
  clear h
  obtain ⟨x0, rfl, h1⟩ := castDm_eq h0
  obtain ⟨x1, rfl, h2⟩ := castDm_eq h1
  exact con_fin (spec_RingYank.b N x0 x1) h2
theorem spec_RingYank.det (N : Nat) : ConDet (spec_RingYank.con N) := by
  intro ds R k y h
  cases ds with
  | nil => exact none_some h
  | cons d0 ds =>
  cases ds with
  | nil => exact none_some h
  | cons d1 ds =>
  cases ds with
  | cons _ _ => exact none_some h
  | nil =>
  have h0 : (castDm (.pair (.sl 26 (.sl 2 (.int .i64))) (.pair (.int .i64) .unit)) .imm d0 fun x0 => castDm (.pair (.sl 2 (.int .i64)) (.pair (.int .i64) (.pair (.int .i64) .unit))) .imm d1 fun x1 => bindO (spec_RingYank N x0 x1) fun r => k [⟨(.pair (.pair (.sl 2 (.int .i64)) (.pair (.int .i64) (.pair (.int .i64) .unit))) (.pair (.int .i64) (.pair (.int .i64) (.pair (.int .i64) .unit)))), (.pr (.pr (.own .imm) .imm) .imm), r⟩] []) = some y := h
  clear h
  obtain ⟨x0, rfl, h1⟩ := castDm_eq h0
  obtain ⟨x1, rfl, h2⟩ := castDm_eq h1
  obtain ⟨r, e, h⟩ := bindO_some h2
  refine ⟨_, _, h, fun k' => ?_⟩
  show (castDm (.pair (.sl 26 (.sl 2 (.int .i64))) (.pair (.int .i64) .unit)) .imm (⟨(.pair (.sl 26 (.sl 2 (.int .i64))) (.pair (.int .i64) .unit)), .imm, x0⟩ : Dy) fun x0 => castDm (.pair (.sl 2 (.int .i64)) (.pair (.int .i64) (.pair (.int .i64) .unit))) .imm (⟨(.pair (.sl 2 (.int .i64)) (.pair (.int .i64) (.pair (.int .i64) .unit))), .imm, x1⟩ : Dy) fun x1 => bindO (spec_RingYank N x0 x1) fun r => k' [⟨(.pair (.pair (.sl 2 (.int .i64)) (.pair (.int .i64) (.pair (.int .i64) .unit))) (.pair (.int .i64) (.pair (.int .i64) (.pair (.int .i64) .unit)))), (.pr (.pr (.own .imm) .imm) .imm), r⟩] []) = _
  simp only [castDm_self]
  rw [e]
  rfl
noncomputable def impl_within.con (N : Nat) : Con := { modes := [.v, .v, .v], ptrs := [false], fn := fun ds k => match ds with | [d0, d1, d2] => castDm (.int .i64) .imm d0 fun x0 => castDm (.int .i64) .imm d1 fun x1 => castDm (.int .i64) .imm d2 fun x2 => bindO (impl_within N x0 x1 x2) fun r => k [⟨.bool, .imm, r⟩] [] | _ => none }
noncomputable def impl_within.cfg (N : Nat) : Cfg := { ty := tys, keep := [], flt := [], elm := [(22, (.own .imm)), (23, (.own (.own .imm))), (24, (.pr (.own (.own .imm)) .imm)), (25, (.pr (.own (.own .imm)) .imm)), (26, (.own .imm)), (27, (.pr (.own .imm) .imm)), (28, (.pr (.own .imm) .imm)), (31, (.pr (.pr (.own .imm) .imm) .imm)), (32, (.pr (.pr (.own .imm) .imm) .imm)), (45, (.pr (.pr (.own .imm) .imm) (.pr (.own .imm) .imm))), (46, (.pr (.pr (.own .imm) .imm) (.pr (.own .imm) .imm))), (54, (.pr (.own .imm) .imm)), (55, (.pr (.own .imm) .imm))], live := [], ord := [], con := [], loops := [], joins := [] }
theorem impl_within.cons (N : Nat) : ConsOk Try.prog (impl_within.cfg N).con := consOk_nil
theorem impl_within.ls (N : Nat) : LoopsOk Try.prog (impl_within.cfg N) (fnBody Try.f38) := loopsL (l := []) (by kernel_rfl) trivial
theorem impl_within.b (N : Nat) (x0 : den (.int .i64)) (x1 : den (.int .i64)) (x2 : den (.int .i64)) : body (impl_within.cfg N) N Try.f38 [.one, .one, .one] [.v, .v, .v] [(false, .imm)] [⟨(.int .i64), .imm, x0⟩, ⟨(.int .i64), .imm, x1⟩, ⟨(.int .i64), .imm, x2⟩] (fun r i => some (r, i)) = bindO (impl_within N x0 x1 x2) fun r => some ([⟨.bool, .imm, r⟩], []) := by
  show _ = bindF _ _
  conv => rhs; simp only [impl_within, bindF_ifB, bindF_bindO, bindF_pure, bindF_none, bindF_onSum]
  kernel_rfl
theorem impl_within.ok (N : Nat) : ConOk Try.prog 38 [.one, .one, .one] (impl_within.con N) := by
  refine conOk_mk (g := impl_within.cfg N) (N := N) (res := [(false, .imm)]) tys_ok (impl_within.cons N) mixed Try.func38 (impl_within.ls N) rfl rfl ?_
  intro ds R k y h
  cases ds with
  | nil => exact none_some h
  | cons d0 ds =>
  cases ds with
  | nil => exact none_some h
  | cons d1 ds =>
  cases ds with
  | nil => exact none_some h
  | cons d2 ds =>
  cases ds with
  | cons _ _ => exact none_some h
  | nil =>
  have h0 : (castDm (.int .i64) .imm d0 fun x0 => castDm (.int .i64) .imm d1 fun x1 => castDm (.int .i64) .imm d2 fun x2 => bindO (impl_within N x0 x1 x2) fun r => k [⟨.bool, .imm, r⟩] []) = some y := h
  clear h
  obtain ⟨x0, rfl, h1⟩ := castDm_eq h0
  obtain ⟨x1, rfl, h2⟩ := castDm_eq h1
  obtain ⟨x2, rfl, h3⟩ := castDm_eq h2
  exact con_fin (impl_within.b N x0 x1 x2) h3
theorem impl_within.det (N : Nat) : ConDet (impl_within.con N) := by
  intro ds R k y h
  cases ds with
  | nil => exact none_some h
  | cons d0 ds =>
  cases ds with
  | nil => exact none_some h
  | cons d1 ds =>
  cases ds with
  | nil => exact none_some h
  | cons d2 ds =>
  cases ds with
  | cons _ _ => exact none_some h
  | nil =>
  have h0 : (castDm (.int .i64) .imm d0 fun x0 => castDm (.int .i64) .imm d1 fun x1 => castDm (.int .i64) .imm d2 fun x2 => bindO (impl_within N x0 x1 x2) fun r => k [⟨.bool, .imm, r⟩] []) = some y := h
  clear h
  obtain ⟨x0, rfl, h1⟩ := castDm_eq h0
  obtain ⟨x1, rfl, h2⟩ := castDm_eq h1
  obtain ⟨x2, rfl, h3⟩ := castDm_eq h2
  obtain ⟨r, e, h⟩ := bindO_some h3
  refine ⟨_, _, h, fun k' => ?_⟩
  show (castDm (.int .i64) .imm (⟨(.int .i64), .imm, x0⟩ : Dy) fun x0 => castDm (.int .i64) .imm (⟨(.int .i64), .imm, x1⟩ : Dy) fun x1 => castDm (.int .i64) .imm (⟨(.int .i64), .imm, x2⟩ : Dy) fun x2 => bindO (impl_within N x0 x1 x2) fun r => k' [⟨.bool, .imm, r⟩] []) = _
  simp only [castDm_self]
  rw [e]
  rfl
noncomputable def impl_isPoint.con (N : Nat) : Con := { modes := [.v], ptrs := [false], fn := fun ds k => match ds with | [d0] => castDm (.int .i64) .imm d0 fun x0 => bindO (impl_isPoint N x0) fun r => k [⟨.bool, .imm, r⟩] [] | _ => none }
noncomputable def impl_isPoint.cfg (N : Nat) : Cfg := { ty := tys, keep := [4, 7], flt := [], elm := [(22, (.own .imm)), (23, (.own (.own .imm))), (24, (.pr (.own (.own .imm)) .imm)), (25, (.pr (.own (.own .imm)) .imm)), (26, (.own .imm)), (27, (.pr (.own .imm) .imm)), (28, (.pr (.own .imm) .imm)), (31, (.pr (.pr (.own .imm) .imm) .imm)), (32, (.pr (.pr (.own .imm) .imm) .imm)), (45, (.pr (.pr (.own .imm) .imm) (.pr (.own .imm) .imm))), (46, (.pr (.pr (.own .imm) .imm) (.pr (.own .imm) .imm))), (54, (.pr (.own .imm) .imm)), (55, (.pr (.own .imm) .imm))], live := [], ord := [], con := [((38, [.one, .one, .one]), impl_within.con N)], loops := [], joins := [] }
theorem impl_isPoint.cons (N : Nat) : ConsOk Try.prog (impl_isPoint.cfg N).con := (consOk_cons (hb38) (impl_within.ok N) (impl_within.det N) consOk_nil)
theorem impl_isPoint.ls (N : Nat) : LoopsOk Try.prog (impl_isPoint.cfg N) (fnBody Try.f53) := loopsL (l := []) (by kernel_rfl) trivial
theorem impl_isPoint.b (N : Nat) (x0 : den (.int .i64)) : body (impl_isPoint.cfg N) N Try.f53 [.one] [.v] [(false, .imm)] [⟨(.int .i64), .imm, x0⟩] (fun r i => some (r, i)) = bindO (impl_isPoint N x0) fun r => some ([⟨.bool, .imm, r⟩], []) := by
  show _ = bindF _ _
  conv => rhs; simp only [impl_isPoint, bindF_ifB, bindF_bindO, bindF_pure, bindF_none, bindF_onSum]
  kernel_rfl
theorem impl_isPoint.ok (N : Nat) : ConOk Try.prog 53 [.one] (impl_isPoint.con N) := by
  refine conOk_mk (g := impl_isPoint.cfg N) (N := N) (res := [(false, .imm)]) tys_ok (impl_isPoint.cons N) mixed Try.func53 (impl_isPoint.ls N) rfl rfl ?_
  intro ds R k y h
  cases ds with
  | nil => exact none_some h
  | cons d0 ds =>
  cases ds with
  | cons _ _ => exact none_some h
  | nil =>
  have h0 : (castDm (.int .i64) .imm d0 fun x0 => bindO (impl_isPoint N x0) fun r => k [⟨.bool, .imm, r⟩] []) = some y := h
  clear h
  obtain ⟨x0, rfl, h1⟩ := castDm_eq h0
  exact con_fin (impl_isPoint.b N x0) h1
theorem impl_isPoint.det (N : Nat) : ConDet (impl_isPoint.con N) := by
  intro ds R k y h
  cases ds with
  | nil => exact none_some h
  | cons d0 ds =>
  cases ds with
  | cons _ _ => exact none_some h
  | nil =>
  have h0 : (castDm (.int .i64) .imm d0 fun x0 => bindO (impl_isPoint N x0) fun r => k [⟨.bool, .imm, r⟩] []) = some y := h
  clear h
  obtain ⟨x0, rfl, h1⟩ := castDm_eq h0
  obtain ⟨r, e, h⟩ := bindO_some h1
  refine ⟨_, _, h, fun k' => ?_⟩
  show (castDm (.int .i64) .imm (⟨(.int .i64), .imm, x0⟩ : Dy) fun x0 => bindO (impl_isPoint N x0) fun r => k' [⟨.bool, .imm, r⟩] []) = _
  simp only [castDm_self]
  rw [e]
  rfl
noncomputable def impl_PointsRight_c1.con (N : Nat) : Con := { modes := [.v], ptrs := [false], fn := fun ds k => match ds with | [d0] => castDm (.int .i64) .imm d0 fun x0 => bindO (impl_PointsRight_c1 N x0) fun r => k [⟨.bool, .imm, r⟩] [] | _ => none }
noncomputable def impl_PointsRight_c1.cfg (N : Nat) : Cfg := { ty := tys, keep := [4], flt := [], elm := [(22, (.own .imm)), (23, (.own (.own .imm))), (24, (.pr (.own (.own .imm)) .imm)), (25, (.pr (.own (.own .imm)) .imm)), (26, (.own .imm)), (27, (.pr (.own .imm) .imm)), (28, (.pr (.own .imm) .imm)), (31, (.pr (.pr (.own .imm) .imm) .imm)), (32, (.pr (.pr (.own .imm) .imm) .imm)), (45, (.pr (.pr (.own .imm) .imm) (.pr (.own .imm) .imm))), (46, (.pr (.pr (.own .imm) .imm) (.pr (.own .imm) .imm))), (54, (.pr (.own .imm) .imm)), (55, (.pr (.own .imm) .imm))], live := [], ord := [], con := [((53, [.one]), impl_isPoint.con N)], loops := [], joins := [] }
theorem impl_PointsRight_c1.cons (N : Nat) : ConsOk Try.prog (impl_PointsRight_c1.cfg N).con := (consOk_cons (hb53) (impl_isPoint.ok N) (impl_isPoint.det N) consOk_nil)
theorem impl_PointsRight_c1.ls (N : Nat) : LoopsOk Try.prog (impl_PointsRight_c1.cfg N) (fnBody Try.f52) := loopsL (l := []) (by kernel_rfl) trivial
theorem impl_PointsRight_c1.b (N : Nat) (x0 : den (.int .i64)) : body (impl_PointsRight_c1.cfg N) N Try.f52 [.one] [.v] [(false, .imm)] [⟨(.int .i64), .imm, x0⟩] (fun r i => some (r, i)) = bindO (impl_PointsRight_c1 N x0) fun r => some ([⟨.bool, .imm, r⟩], []) := by
  show _ = bindF _ _
  conv => rhs; simp only [impl_PointsRight_c1, bindF_ifB, bindF_bindO, bindF_pure, bindF_none, bindF_onSum]
  kernel_rfl
theorem impl_PointsRight_c1.ok (N : Nat) : ConOk Try.prog 52 [.one] (impl_PointsRight_c1.con N) := by
  refine conOk_mk (g := impl_PointsRight_c1.cfg N) (N := N) (res := [(false, .imm)]) tys_ok (impl_PointsRight_c1.cons N) mixed Try.func52 (impl_PointsRight_c1.ls N) rfl rfl ?_
  intro ds R k y h
  cases ds with
  | nil => exact none_some h
  | cons d0 ds =>
  cases ds with
  | cons _ _ => exact none_some h
  | nil =>
  have h0 : (castDm (.int .i64) .imm d0 fun x0 => bindO (impl_PointsRight_c1 N x0) fun r => k [⟨.bool, .imm, r⟩] []) = some y := h
  clear h
  obtain ⟨x0, rfl, h1⟩ := castDm_eq h0
  exact con_fin (impl_PointsRight_c1.b N x0) h1
theorem impl_PointsRight_c1.det (N : Nat) : ConDet (impl_PointsRight_c1.con N) := by
  intro ds R k y h
  cases ds with
  | nil => exact none_some h
  | cons d0 ds =>
  cases ds with
  | cons _ _ => exact none_some h
  | nil =>
  have h0 : (castDm (.int .i64) .imm d0 fun x0 => bindO (impl_PointsRight_c1 N x0) fun r => k [⟨.bool, .imm, r⟩] []) = some y := h
  clear h
  obtain ⟨x0, rfl, h1⟩ := castDm_eq h0
  obtain ⟨r, e, h⟩ := bindO_some h1
  refine ⟨_, _, h, fun k' => ?_⟩
  show (castDm (.int .i64) .imm (⟨(.int .i64), .imm, x0⟩ : Dy) fun x0 => bindO (impl_PointsRight_c1 N x0) fun r => k' [⟨.bool, .imm, r⟩] []) = _
  simp only [castDm_self]
  rw [e]
  rfl
def slices_IndexFunc_Sint64_int64__impl_PointsRight_c1.sk2 : Skel := ⟨[.pv (.sl 2 (.int .i64)), .fn 52 [], .dead, .dead, .dead, .dead, .dead, .pv (.int .i64), .pv (.int .i64), .dead, .dead, .dead, .dead, .dead, .dead, .dead, .dead, .dead, .dead], []⟩
def slices_IndexFunc_Sint64_int64__impl_PointsRight_c1.xs2 : List XS := [⟨.exit 0, [], ⟨[.dead, .dead, .dead, .dead, .dead, .dead, .dead, .dead, .dead, .dead, .dead, .dead, .dead, .dead, .dead, .dead, .dead, .dead, .dead], []⟩⟩, ⟨.ret, [4], ⟨[.dead, .dead, .dead, .dead, .pv (.int .i64), .dead, .dead, .dead, .dead, .dead, .dead, .dead, .dead, .dead, .dead, .dead, .dead, .dead, .dead], []⟩⟩]
noncomputable def slices_IndexFunc_Sint64_int64__impl_PointsRight_c1.con (N : Nat) : Con := { modes := [.v], ptrs := [false], fn := fun ds k => match ds with | [d0] => castDm (.sl 2 (.int .i64)) .imm d0 fun x0 => bindO (slices_IndexFunc_Sint64_int64__impl_PointsRight_c1 N x0) fun r => k [⟨(.int .i64), .imm, r⟩] [] | _ => none }
noncomputable def slices_IndexFunc_Sint64_int64__impl_PointsRight_c1.cfg (N : Nat) : Cfg := { ty := tys, keep := [16], flt := [], elm := [(22, (.own .imm)), (23, (.own (.own .imm))), (24, (.pr (.own (.own .imm)) .imm)), (25, (.pr (.own (.own .imm)) .imm)), (26, (.own .imm)), (27, (.pr (.own .imm) .imm)), (28, (.pr (.own .imm) .imm)), (31, (.pr (.pr (.own .imm) .imm) .imm)), (32, (.pr (.pr (.own .imm) .imm) .imm)), (45, (.pr (.pr (.own .imm) .imm) (.pr (.own .imm) .imm))), (46, (.pr (.pr (.own .imm) .imm) (.pr (.own .imm) .imm))), (54, (.pr (.own .imm) .imm)), (55, (.pr (.own .imm) .imm))], live := [(2, [0, 1, 7, 8])], ord := [], con := [((52, [.one]), impl_PointsRight_c1.con N)], loops := [(2, loopCon N slices_IndexFunc_Sint64_int64__impl_PointsRight_c1.sk2 slices_IndexFunc_Sint64_int64__impl_PointsRight_c1.xs2 (fun {R} => slices_IndexFunc_Sint64_int64__impl_PointsRight_c1.l2 (R := R) N))], joins := [] }
theorem slices_IndexFunc_Sint64_int64__impl_PointsRight_c1.cons (N : Nat) : ConsOk Try.prog (slices_IndexFunc_Sint64_int64__impl_PointsRight_c1.cfg N).con := (consOk_cons (hb52) (impl_PointsRight_c1.ok N) (impl_PointsRight_c1.det N) consOk_nil)
theorem slices_IndexFunc_Sint64_int64__impl_PointsRight_c1.h2 {R : Type} (N : Nat) (d : slices_IndexFunc_Sint64_int64__impl_PointsRight_c1.sk2.D) (kn : slices_IndexFunc_Sint64_int64__impl_PointsRight_c1.sk2.D → Option R) (kx : XD slices_IndexFunc_Sint64_int64__impl_PointsRight_c1.xs2 → Option R) : roundK (slices_IndexFunc_Sint64_int64__impl_PointsRight_c1.cfg N) N (nthLoop (fnBody Try.f55) 0) slices_IndexFunc_Sint64_int64__impl_PointsRight_c1.sk2 slices_IndexFunc_Sint64_int64__impl_PointsRight_c1.xs2 d kn kx = slices_IndexFunc_Sint64_int64__impl_PointsRight_c1.l2 N d kn kx := by kernel_rfl
theorem slices_IndexFunc_Sint64_int64__impl_PointsRight_c1.i2 (N : Nat) : LoopsOk Try.prog (slices_IndexFunc_Sint64_int64__impl_PointsRight_c1.cfg N) (nthLoop (fnBody Try.f55) 0) := loopsL (l := []) (by kernel_rfl) trivial
theorem slices_IndexFunc_Sint64_int64__impl_PointsRight_c1.o2 (N : Nat) : LoopOk Try.prog (nthLoop (fnBody Try.f55) 0) (loopCon N slices_IndexFunc_Sint64_int64__impl_PointsRight_c1.sk2 slices_IndexFunc_Sint64_int64__impl_PointsRight_c1.xs2 (fun {R} => slices_IndexFunc_Sint64_int64__impl_PointsRight_c1.l2 (R := R) N)) := loop_ok (g := slices_IndexFunc_Sint64_int64__impl_PointsRight_c1.cfg N) tys_ok (slices_IndexFunc_Sint64_int64__impl_PointsRight_c1.cons N) mixed (slices_IndexFunc_Sint64_int64__impl_PointsRight_c1.i2 N) (fun d kn kx => slices_IndexFunc_Sint64_int64__impl_PointsRight_c1.h2 N d kn kx)
theorem slices_IndexFunc_Sint64_int64__impl_PointsRight_c1.ls (N : Nat) : LoopsOk Try.prog (slices_IndexFunc_Sint64_int64__impl_PointsRight_c1.cfg N) (fnBody Try.f55) := loopsL (l := [nthLoop (fnBody Try.f55) 0]) (by kernel_rfl) ⟨loopOne (L0 := loopCon N slices_IndexFunc_Sint64_int64__impl_PointsRight_c1.sk2 slices_IndexFunc_Sint64_int64__impl_PointsRight_c1.xs2 (fun {R} => slices_IndexFunc_Sint64_int64__impl_PointsRight_c1.l2 (R := R) N)) (id := 2) (by kernel_rfl) (by kernel_rfl) (slices_IndexFunc_Sint64_int64__impl_PointsRight_c1.o2 N), trivial⟩
theorem slices_IndexFunc_Sint64_int64__impl_PointsRight_c1.q2 {R R' : Type} {N n : Nat} {d} {k} {g : R → Option R'} : bindF (loopP (slices_IndexFunc_Sint64_int64__impl_PointsRight_c1.l2 N) n d k) g = loopP (slices_IndexFunc_Sint64_int64__impl_PointsRight_c1.l2 N) n d fun e => bindF (k e) g := bindF_loopP (fun d kn kx => by simp only [slices_IndexFunc_Sint64_int64__impl_PointsRight_c1.l2, bindF_ifB, bindF_bindO, bindF_pure, bindF_none, bindF_onSum]) n d k
theorem slices_IndexFunc_Sint64_int64__impl_PointsRight_c1.b (N : Nat) (x0 : den (.sl 2 (.int .i64))) : body (slices_IndexFunc_Sint64_int64__impl_PointsRight_c1.cfg N) N Try.f55 [.one, .fn 52 0] [.v] [(false, .imm)] [⟨(.sl 2 (.int .i64)), .imm, x0⟩] (fun r i => some (r, i)) = bindO (slices_IndexFunc_Sint64_int64__impl_PointsRight_c1 N x0) fun r => some ([⟨(.int .i64), .imm, r⟩], []) := by
  show _ = bindF _ _
  conv => rhs; simp only [slices_IndexFunc_Sint64_int64__impl_PointsRight_c1, bindF_ifB, bindF_bindO, bindF_pure, bindF_none, bindF_onSum, slices_IndexFunc_Sint64_int64__impl_PointsRight_c1.q2]
  kernel_rfl
theorem slices_IndexFunc_Sint64_int64__impl_PointsRight_c1.ok (N : Nat) : ConOk Try.prog 55 [.one, .fn 52 0] (slices_IndexFunc_Sint64_int64__impl_PointsRight_c1.con N) := by
  refine conOk_mk (g := slices_IndexFunc_Sint64_int64__impl_PointsRight_c1.cfg N) (N := N) (res := [(false, .imm)]) tys_ok (slices_IndexFunc_Sint64_int64__impl_PointsRight_c1.cons N) mixed Try.func55 (slices_IndexFunc_Sint64_int64__impl_PointsRight_c1.ls N) rfl rfl ?_
  intro ds R k y h
  cases ds with
  | nil => exact none_some h
  | cons d0 ds =>
  cases ds with
  | cons _ _ => exact none_some h
  | nil =>
  have h0 : (castDm (.sl 2 (.int .i64)) .imm d0 fun x0 => bindO (slices_IndexFunc_Sint64_int64__impl_PointsRight_c1 N x0) fun r => k [⟨(.int .i64), .imm, r⟩] []) = some y := h
  clear h
  obtain ⟨x0, rfl, h1⟩ := castDm_eq h0
  exact con_fin (slices_IndexFunc_Sint64_int64__impl_PointsRight_c1.b N x0) h1
theorem slices_IndexFunc_Sint64_int64__impl_PointsRight_c1.det (N : Nat) : ConDet (slices_IndexFunc_Sint64_int64__impl_PointsRight_c1.con N) := by
  intro ds R k y h
  cases ds with
  | nil => exact none_some h
  | cons d0 ds =>
  cases ds with
  | cons _ _ => exact none_some h
  | nil =>
  have h0 : (castDm (.sl 2 (.int .i64)) .imm d0 fun x0 => bindO (slices_IndexFunc_Sint64_int64__impl_PointsRight_c1 N x0) fun r => k [⟨(.int .i64), .imm, r⟩] []) = some y := h
  clear h
  obtain ⟨x0, rfl, h1⟩ := castDm_eq h0
  obtain ⟨r, e, h⟩ := bindO_some h1
  refine ⟨_, _, h, fun k' => ?_⟩
  show (castDm (.sl 2 (.int .i64)) .imm (⟨(.sl 2 (.int .i64)), .imm, x0⟩ : Dy) fun x0 => bindO (slices_IndexFunc_Sint64_int64__impl_PointsRight_c1 N x0) fun r => k' [⟨(.int .i64), .imm, r⟩] []) = _
  simp only [castDm_self]
  rw [e]
  rfl
noncomputable def slices_ContainsFunc_Sint64_int64__impl_PointsRight_c1.con (N : Nat) : Con := { modes := [.v], ptrs := [false], fn := fun ds k => match ds with | [d0] => castDm (.sl 2 (.int .i64)) .imm d0 fun x0 => bindO (slices_ContainsFunc_Sint64_int64__impl_PointsRight_c1 N x0) fun r => k [⟨.bool, .imm, r⟩] [] | _ => none }
noncomputable def slices_ContainsFunc_Sint64_int64__impl_PointsRight_c1.cfg (N : Nat) : Cfg := { ty := tys, keep := [7], flt := [], elm := [(22, (.own .imm)), (23, (.own (.own .imm))), (24, (.pr (.own (.own .imm)) .imm)), (25, (.pr (.own (.own .imm)) .imm)), (26, (.own .imm)), (27, (.pr (.own .imm) .imm)), (28, (.pr (.own .imm) .imm)), (31, (.pr (.pr (.own .imm) .imm) .imm)), (32, (.pr (.pr (.own .imm) .imm) .imm)), (45, (.pr (.pr (.own .imm) .imm) (.pr (.own .imm) .imm))), (46, (.pr (.pr (.own .imm) .imm) (.pr (.own .imm) .imm))), (54, (.pr (.own .imm) .imm)), (55, (.pr (.own .imm) .imm))], live := [], ord := [], con := [((55, [.one, .fn 52 0]), slices_IndexFunc_Sint64_int64__impl_PointsRight_c1.con N)], loops := [], joins := [] }
theorem slices_ContainsFunc_Sint64_int64__impl_PointsRight_c1.cons (N : Nat) : ConsOk Try.prog (slices_ContainsFunc_Sint64_int64__impl_PointsRight_c1.cfg N).con := (consOk_cons (hb55) (slices_IndexFunc_Sint64_int64__impl_PointsRight_c1.ok N) (slices_IndexFunc_Sint64_int64__impl_PointsRight_c1.det N) consOk_nil)
theorem slices_ContainsFunc_Sint64_int64__impl_PointsRight_c1.ls (N : Nat) : LoopsOk Try.prog (slices_ContainsFunc_Sint64_int64__impl_PointsRight_c1.cfg N) (fnBody Try.f51) := loopsL (l := []) (by kernel_rfl) trivial
theorem slices_ContainsFunc_Sint64_int64__impl_PointsRight_c1.b (N : Nat) (x0 : den (.sl 2 (.int .i64))) : body (slices_ContainsFunc_Sint64_int64__impl_PointsRight_c1.cfg N) N Try.f51 [.one, .fn 52 0] [.v] [(false, .imm)] [⟨(.sl 2 (.int .i64)), .imm, x0⟩] (fun r i => some (r, i)) = bindO (slices_ContainsFunc_Sint64_int64__impl_PointsRight_c1 N x0) fun r => some ([⟨.bool, .imm, r⟩], []) := by
  show _ = bindF _ _
  conv => rhs; simp only [slices_ContainsFunc_Sint64_int64__impl_PointsRight_c1, bindF_ifB, bindF_bindO, bindF_pure, bindF_none, bindF_onSum]
  kernel_rfl
theorem slices_ContainsFunc_Sint64_int64__impl_PointsRight_c1.ok (N : Nat) : ConOk Try.prog 51 [.one, .fn 52 0] (slices_ContainsFunc_Sint64_int64__impl_PointsRight_c1.con N) := by
  refine conOk_mk (g := slices_ContainsFunc_Sint64_int64__impl_PointsRight_c1.cfg N) (N := N) (res := [(false, .imm)]) tys_ok (slices_ContainsFunc_Sint64_int64__impl_PointsRight_c1.cons N) mixed Try.func51 (slices_ContainsFunc_Sint64_int64__impl_PointsRight_c1.ls N) rfl rfl ?_
  intro ds R k y h
  cases ds with
  | nil => exact none_some h
  | cons d0 ds =>
  cases ds with
  | cons _ _ => exact none_some h
  | nil =>
  have h0 : (castDm (.sl 2 (.int .i64)) .imm d0 fun x0 => bindO (slices_ContainsFunc_Sint64_int64__impl_PointsRight_c1 N x0) fun r => k [⟨.bool, .imm, r⟩] []) = some y := h
  clear h
  obtain ⟨x0, rfl, h1⟩ := castDm_eq h0
  exact con_fin (slices_ContainsFunc_Sint64_int64__impl_PointsRight_c1.b N x0) h1
theorem slices_ContainsFunc_Sint64_int64__impl_PointsRight_c1.det (N : Nat) : ConDet (slices_ContainsFunc_Sint64_int64__impl_PointsRight_c1.con N) := by
  intro ds R k y h
  cases ds with
  | nil => exact none_some h
  | cons d0 ds =>
  cases ds with
  | cons _ _ => exact none_some h
  | nil =>
  have h0 : (castDm (.sl 2 (.int .i64)) .imm d0 fun x0 => bindO (slices_ContainsFunc_Sint64_int64__impl_PointsRight_c1 N x0) fun r => k [⟨.bool, .imm, r⟩] []) = some y := h
  clear h
  obtain ⟨x0, rfl, h1⟩ := castDm_eq h0
  obtain ⟨r, e, h⟩ := bindO_some h1
  refine ⟨_, _, h, fun k' => ?_⟩
  show (castDm (.sl 2 (.int .i64)) .imm (⟨(.sl 2 (.int .i64)), .imm, x0⟩ : Dy) fun x0 => bindO (slices_ContainsFunc_Sint64_int64__impl_PointsRight_c1 N x0) fun r => k' [⟨.bool, .imm, r⟩] []) = _
  simp only [castDm_self]
  rw [e]
  rfl
end Go.AE.F
