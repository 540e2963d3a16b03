/- The printed functions are what the program comes to: contracts. -/
import Derived.Test.YtfmifmmajilgmaaLCompPutL0
namespace Go.AE.F
open Go.AE Go.Proofs
set_option maxRecDepth 100000
def spec_PointsRight.sk4 : Skel := ⟨[.pv (.sl 2 (.int .i64)), .dead, .dead, .pv (.int .i64), .dead, .dead, .dead, .dead, .dead, .dead, .dead, .dead, .dead, .dead, .dead, .dead, .dead, .dead, .dead], []⟩
def spec_PointsRight.xs4 : List XS := [⟨.exit 0, [], ⟨[.dead, .dead, .dead, .dead, .dead, .dead, .dead, .dead, .dead, .dead, .dead, .dead, .dead, .dead, .dead, .dead, .dead, .dead, .dead], []⟩⟩, ⟨.ret, [2], ⟨[.dead, .dead, .pv .bool, .dead, .dead, .dead, .dead, .dead, .dead, .dead, .dead, .dead, .dead, .dead, .dead, .dead, .dead, .dead, .dead], []⟩⟩]
noncomputable def spec_PointsRight.con (N : Nat) : Con := { modes := [.v], ptrs := [false], fn := fun ds k => match ds with | [d0] => castDm (.sl 2 (.int .i64)) .imm d0 fun x0 => bindO (spec_PointsRight N x0) fun r => k [⟨.bool, .imm, r⟩] [] | _ => none }
noncomputable def spec_PointsRight.cfg (N : Nat) : Cfg := { ty := tys, keep := [17], flt := [], elm := [(22, (.own .imm)), (23, (.own .imm)), (24, (.pr (.own .imm) .imm)), (25, (.pr (.own .imm) .imm)), (26, (.own (.own .imm))), (29, (.pr (.pr (.own .imm) .imm) (.pr (.own .imm) .imm))), (30, (.pr (.pr (.own .imm) .imm) (.pr (.own .imm) .imm))), (54, (.pr (.own .imm) .imm)), (55, (.pr (.own .imm) .imm)), (61, (.own .imm))], live := [(4, [0, 3])], ord := [], con := [((64, [.one]), spec_l01Point.con N)], loops := [(4, loopCon N spec_PointsRight.sk4 spec_PointsRight.xs4 (fun {R} => spec_PointsRight.l4 (R := R) N))], joins := [] }
theorem spec_PointsRight.cons (N : Nat) : ConsOk Try.prog (spec_PointsRight.cfg N).con := (consOk_cons (hb64) (spec_l01Point.ok N) (spec_l01Point.det N) consOk_nil)
theorem spec_PointsRight.h4 {R : Type} (N : Nat) (d : spec_PointsRight.sk4.D) (kn : spec_PointsRight.sk4.D → Option R) (kx : XD spec_PointsRight.xs4 → Option R) : roundK (spec_PointsRight.cfg N) N (nthLoop (fnBody Try.f42) 0) spec_PointsRight.sk4 spec_PointsRight.xs4 d kn kx = spec_PointsRight.l4 N d kn kx := by kernel_rfl
theorem spec_PointsRight.i4 (N : Nat) : LoopsOk Try.prog (spec_PointsRight.cfg N) (nthLoop (fnBody Try.f42) 0) := loopsL (l := []) (by kernel_rfl) trivial
theorem spec_PointsRight.o4 (N : Nat) : LoopOk Try.prog (nthLoop (fnBody Try.f42) 0) (loopCon N spec_PointsRight.sk4 spec_PointsRight.xs4 (fun {R} => spec_PointsRight.l4 (R := R) N)) := loop_ok (g := spec_PointsRight.cfg N) tys_ok (spec_PointsRight.cons N) mixed (spec_PointsRight.i4 N) (fun d kn kx => spec_PointsRight.h4 N d kn kx)
theorem spec_PointsRight.ls (N : Nat) : LoopsOk Try.prog (spec_PointsRight.cfg N) (fnBody Try.f42) := loopsL (l := [nthLoop (fnBody Try.f42) 0]) (by kernel_rfl) ⟨loopOne (L0 := loopCon N spec_PointsRight.sk4 spec_PointsRight.xs4 (fun {R} => spec_PointsRight.l4 (R := R) N)) (id := 4) (by kernel_rfl) (by kernel_rfl) (spec_PointsRight.o4 N), trivial⟩
theorem spec_PointsRight.q4 {R R' : Type} {N n : Nat} {d} {k} {g : R → Option R'} : bindF (loopP (spec_PointsRight.l4 N) n d k) g = loopP (spec_PointsRight.l4 N) n d fun e => bindF (k e) g := bindF_loopP (fun d kn kx => by simp only [spec_PointsRight.l4, bindF_ifB, bindF_bindO, bindF_pure, bindF_none, bindF_onSum]) n d k
theorem spec_PointsRight.b (N : Nat) (x0 : den (.sl 2 (.int .i64))) : body (spec_PointsRight.cfg N) N Try.f42 [.one] [.v] [(false, .imm)] [⟨(.sl 2 (.int .i64)), .imm, x0⟩] (fun r i => some (r, i)) = bindO (spec_PointsRight N x0) fun r => some ([⟨.bool, .imm, r⟩], []) := by
  show _ = bindF _ _
  conv => rhs; simp only [spec_PointsRight, bindF_ifB, bindF_bindO, bindF_pure, bindF_none, bindF_onSum, spec_PointsRight.q4]
  kernel_rfl
theorem spec_PointsRight.ok (N : Nat) : ConOk Try.prog 42 [.one] (spec_PointsRight.con N) := by
  refine conOk_mk (g := spec_PointsRight.cfg N) (N := N) (res := [(false, .imm)]) tys_ok (spec_PointsRight.cons N) mixed Try.func42 (spec_PointsRight.ls N) rfl rfl ?_
  intro ds R k y h
  cases ds with
  | nil => exact none_some h
  | cons d0 ds =>
  cases ds with
  | cons _ _ => exact none_some h
  | nil =>
  have h0 : (castDm (.sl 2 (.int .i64)) .imm d0 fun x0 => bindO (spec_PointsRight N x0) fun r => k [⟨.bool, .imm, r⟩] []) = some y := h
  clear h
  obtain ⟨x0, rfl, h1⟩ := castDm_eq h0
  exact con_fin (spec_PointsRight.b N x0) h1
theorem spec_PointsRight.det (N : Nat) : ConDet (spec_PointsRight.con N) := by
  intro ds R k y h
  cases ds with
  | nil => exact none_some h
  | cons d0 ds =>
  cases ds with
  | cons _ _ => exact none_some h
  | nil =>
  have h0 : (castDm (.sl 2 (.int .i64)) .imm d0 fun x0 => bindO (spec_PointsRight N x0) fun r => k [⟨.bool, .imm, r⟩] []) = some y := h
  clear h
  obtain ⟨x0, rfl, h1⟩ := castDm_eq h0
  obtain ⟨r, e, h⟩ := bindO_some h1
  refine ⟨_, _, h, fun k' => ?_⟩
  show (castDm (.sl 2 (.int .i64)) .imm (⟨(.sl 2 (.int .i64)), .imm, x0⟩ : Dy) fun x0 => bindO (spec_PointsRight N x0) fun r => k' [⟨.bool, .imm, r⟩] []) = _
  simp only [castDm_self]
  rw [e]
  rfl
noncomputable def spec_BufRight.con (N : Nat) : Con := { modes := [.v], ptrs := [false], fn := fun ds k => match ds with | [d0] => castDm (.pair (.sl 2 (.int .i64)) (.pair (.int .i64) (.pair (.int .i64) .unit))) .imm d0 fun x0 => bindO (spec_BufRight N x0) fun r => k [⟨.bool, .imm, r⟩] [] | _ => none }
noncomputable def spec_BufRight.cfg (N : Nat) : Cfg := { ty := tys, keep := [9], flt := [], elm := [(22, (.own .imm)), (23, (.own .imm)), (24, (.pr (.own .imm) .imm)), (25, (.pr (.own .imm) .imm)), (26, (.own (.own .imm))), (29, (.pr (.pr (.own .imm) .imm) (.pr (.own .imm) .imm))), (30, (.pr (.pr (.own .imm) .imm) (.pr (.own .imm) .imm))), (54, (.pr (.own .imm) .imm)), (55, (.pr (.own .imm) .imm)), (61, (.own .imm))], live := [], ord := [], con := [((42, [.one]), spec_PointsRight.con N)], loops := [], joins := [] }
theorem spec_BufRight.cons (N : Nat) : ConsOk Try.prog (spec_BufRight.cfg N).con := (consOk_cons (hb42) (spec_PointsRight.ok N) (spec_PointsRight.det N) consOk_nil)
theorem spec_BufRight.ls (N : Nat) : LoopsOk Try.prog (spec_BufRight.cfg N) (fnBody Try.f19) := loopsL (l := []) (by kernel_rfl) trivial
theorem spec_BufRight.b (N : Nat) (x0 : den (.pair (.sl 2 (.int .i64)) (.pair (.int .i64) (.pair (.int .i64) .unit)))) : body (spec_BufRight.cfg N) N Try.f19 [.one] [.v] [(false, .imm)] [⟨(.pair (.sl 2 (.int .i64)) (.pair (.int .i64) (.pair (.int .i64) .unit))), .imm, x0⟩] (fun r i => some (r, i)) = bindO (spec_BufRight N x0) fun r => some ([⟨.bool, .imm, r⟩], []) := by
  show _ = bindF _ _
  conv => rhs; simp only [spec_BufRight, bindF_ifB, bindF_bindO, bindF_pure, bindF_none, bindF_onSum]
  kernel_rfl
theorem spec_BufRight.ok (N : Nat) : ConOk Try.prog 19 [.one] (spec_BufRight.con N) := by
  refine conOk_mk (g := spec_BufRight.cfg N) (N := N) (res := [(false, .imm)]) tys_ok (spec_BufRight.cons N) mixed Try.func19 (spec_BufRight.ls N) rfl rfl ?_
  intro ds R k y h
  cases ds with
  | nil => exact none_some h
  | cons d0 ds =>
  cases ds with
  | cons _ _ => exact none_some h
  | nil =>
  have h0 : (castDm (.pair (.sl 2 (.int .i64)) (.pair (.int .i64) (.pair (.int .i64) .unit))) .imm d0 fun x0 => bindO (spec_BufRight N x0) fun r => k [⟨.bool, .imm, r⟩] []) = some y := h
  clear h
  obtain ⟨x0, rfl, h1⟩ := castDm_eq h0
  exact con_fin (spec_BufRight.b N x0) h1
theorem spec_BufRight.det (N : Nat) : ConDet (spec_BufRight.con N) := by
  intro ds R k y h
  cases ds with
  | nil => exact none_some h
  | cons d0 ds =>
  cases ds with
  | cons _ _ => exact none_some h
  | nil =>
  have h0 : (castDm (.pair (.sl 2 (.int .i64)) (.pair (.int .i64) (.pair (.int .i64) .unit))) .imm d0 fun x0 => bindO (spec_BufRight N x0) fun r => k [⟨.bool, .imm, r⟩] []) = some y := h
  clear h
  obtain ⟨x0, rfl, h1⟩ := castDm_eq h0
  obtain ⟨r, e, h⟩ := bindO_some h1
  refine ⟨_, _, h, fun k' => ?_⟩
  show (castDm (.pair (.sl 2 (.int .i64)) (.pair (.int .i64) (.pair (.int .i64) .unit))) .imm (⟨(.pair (.sl 2 (.int .i64)) (.pair (.int .i64) (.pair (.int .i64) .unit))), .imm, x0⟩ : Dy) fun x0 => bindO (spec_BufRight N x0) fun r => k' [⟨.bool, .imm, r⟩] []) = _
  simp only [castDm_self]
  rw [e]
  rfl
noncomputable def spec_l02Moved.con (N : Nat) : Con := { modes := [.v, .v, .v, .v], ptrs := [false], fn := fun ds k => match ds with | [d0, d1, d2, d3] => castDm (.int .i64) .imm d0 fun x0 => castDm (.int .i64) .imm d1 fun x1 => castDm (.int .i64) .imm d2 fun x2 => castDm (.int .i64) .imm d3 fun x3 => bindO (spec_l02Moved N x0 x1 x2 x3) fun r => k [⟨(.int .i64), .imm, r⟩] [] | _ => none }
noncomputable def spec_l02Moved.cfg (N : Nat) : Cfg := { ty := tys, keep := [], flt := [], elm := [(22, (.own .imm)), (23, (.own .imm)), (24, (.pr (.own .imm) .imm)), (25, (.pr (.own .imm) .imm)), (26, (.own (.own .imm))), (29, (.pr (.pr (.own .imm) .imm) (.pr (.own .imm) .imm))), (30, (.pr (.pr (.own .imm) .imm) (.pr (.own .imm) .imm))), (54, (.pr (.own .imm) .imm)), (55, (.pr (.own .imm) .imm)), (61, (.own .imm))], live := [], ord := [], con := [], loops := [], joins := [] }
theorem spec_l02Moved.cons (N : Nat) : ConsOk Try.prog (spec_l02Moved.cfg N).con := consOk_nil
theorem spec_l02Moved.ls (N : Nat) : LoopsOk Try.prog (spec_l02Moved.cfg N) (fnBody Try.f62) := loopsL (l := []) (by kernel_rfl) trivial
theorem spec_l02Moved.b (N : Nat) (x0 : den (.int .i64)) (x1 : den (.int .i64)) (x2 : den (.int .i64)) (x3 : den (.int .i64)) : body (spec_l02Moved.cfg N) N Try.f62 [.one, .one, .one, .one] [.v, .v, .v, .v] [(false, .imm)] [⟨(.int .i64), .imm, x0⟩, ⟨(.int .i64), .imm, x1⟩, ⟨(.int .i64), .imm, x2⟩, ⟨(.int .i64), .imm, x3⟩] (fun r i => some (r, i)) = bindO (spec_l02Moved N x0 x1 x2 x3) fun r => some ([⟨(.int .i64), .imm, r⟩], []) := by
  show _ = bindF _ _
  conv => rhs; simp only [spec_l02Moved, bindF_ifB, bindF_bindO, bindF_pure, bindF_none, bindF_onSum]
  kernel_rfl
theorem spec_l02Moved.ok (N : Nat) : ConOk Try.prog 62 [.one, .one, .one, .one] (spec_l02Moved.con N) := by
  refine conOk_mk (g := spec_l02Moved.cfg N) (N := N) (res := [(false, .imm)]) tys_ok (spec_l02Moved.cons N) mixed Try.func62 (spec_l02Moved.ls N) rfl rfl ?_
  intro ds R k y h
  cases ds with
  | nil => exact none_some h
  | cons d0 ds =>
  cases ds with
  | nil => exact none_some h
  | cons d1 ds =>
  cases ds with
  | nil => exact none_some h
  | cons d2 ds =>
  cases ds with
  | nil => exact none_some h
  | cons d3 ds =>
  cases ds with
  | cons _ _ => exact none_some h
  | nil =>
  have h0 : (castDm (.int .i64) .imm d0 fun x0 => castDm (.int .i64) .imm d1 fun x1 => castDm (.int .i64) .imm d2 fun x2 => castDm (.int .i64) .imm d3 fun x3 => bindO (spec_l02Moved N x0 x1 x2 x3) fun r => k [⟨(.int .i64), .imm, r⟩] []) = some y := h
  clear h
  obtain ⟨x0, rfl, h1⟩ := castDm_eq h0
  obtain ⟨x1, rfl, h2⟩ := castDm_eq h1
  obtain ⟨x2, rfl, h3⟩ := castDm_eq h2
  obtain ⟨x3, rfl, h4⟩ := castDm_eq h3
  exact con_fin (spec_l02Moved.b N x0 x1 x2 x3) h4
theorem spec_l02Moved.det (N : Nat) : ConDet (spec_l02Moved.con N) := by
  intro ds R k y h
  cases ds with
  | nil => exact none_some h
  | cons d0 ds =>
  cases ds with
  | nil => exact none_some h
  | cons d1 ds =>
  cases ds with
  | nil => exact none_some h
  | cons d2 ds =>
  cases ds with
  | nil => exact none_some h
  | cons d3 ds =>
  cases ds with
  | cons _ _ => exact none_some h
  | nil =>
  have h0 : (castDm (.int .i64) .imm d0 fun x0 => castDm (.int .i64) .imm d1 fun x1 => castDm (.int .i64) .imm d2 fun x2 => castDm (.int .i64) .imm d3 fun x3 => bindO (spec_l02Moved N x0 x1 x2 x3) fun r => k [⟨(.int .i64), .imm, r⟩] []) = some y := h
  clear h
  obtain ⟨x0, rfl, h1⟩ := castDm_eq h0
  obtain ⟨x1, rfl, h2⟩ := castDm_eq h1
  obtain ⟨x2, rfl, h3⟩ := castDm_eq h2
  obtain ⟨x3, rfl, h4⟩ := castDm_eq h3
  obtain ⟨r, e, h⟩ := bindO_some h4
  refine ⟨_, _, h, fun k' => ?_⟩
  show (castDm (.int .i64) .imm (⟨(.int .i64), .imm, x0⟩ : Dy) fun x0 => castDm (.int .i64) .imm (⟨(.int .i64), .imm, x1⟩ : Dy) fun x1 => castDm (.int .i64) .imm (⟨(.int .i64), .imm, x2⟩ : Dy) fun x2 => castDm (.int .i64) .imm (⟨(.int .i64), .imm, x3⟩ : Dy) fun x3 => bindO (spec_l02Moved N x0 x1 x2 x3) fun r => k' [⟨(.int .i64), .imm, r⟩] []) = _
  simp only [castDm_self]
  rw [e]
  rfl
noncomputable def spec_l01Copy.con (N : Nat) : Con := { modes := [.v], ptrs := [false], fn := fun ds k => match ds with | [d0] => castDm (.sl 2 (.int .i64)) .imm d0 fun x0 => bindO (spec_l01Copy N x0) fun r => k [⟨(.sl 2 (.int .i64)), (.own .imm), r⟩] [] | _ => none }
noncomputable def spec_l01Copy.cfg (N : Nat) : Cfg := { ty := tys, keep := [], flt := [], elm := [(22, (.own .imm)), (23, (.own .imm)), (24, (.pr (.own .imm) .imm)), (25, (.pr (.own .imm) .imm)), (26, (.own (.own .imm))), (29, (.pr (.pr (.own .imm) .imm) (.pr (.own .imm) .imm))), (30, (.pr (.pr (.own .imm) .imm) (.pr (.own .imm) .imm))), (54, (.pr (.own .imm) .imm)), (55, (.pr (.own .imm) .imm)), (61, (.own .imm))], live := [], ord := [], con := [], loops := [], joins := [] }
theorem spec_l01Copy.cons (N : Nat) : ConsOk Try.prog (spec_l01Copy.cfg N).con := consOk_nil
theorem spec_l01Copy.ls (N : Nat) : LoopsOk Try.prog (spec_l01Copy.cfg N) (fnBody Try.f23) := loopsL (l := []) (by kernel_rfl) trivial
theorem spec_l01Copy.b (N : Nat) (x0 : den (.sl 2 (.int .i64))) : body (spec_l01Copy.cfg N) N Try.f23 [.one] [.v] [(false, (.own .imm))] [⟨(.sl 2 (.int .i64)), .imm, x0⟩] (fun r i => some (r, i)) = bindO (spec_l01Copy N x0) fun r => some ([⟨(.sl 2 (.int .i64)), (.own .imm), r⟩], []) := by
  show _ = bindF _ _
  conv => rhs; simp only [spec_l01Copy, bindF_ifB, bindF_bindO, bindF_pure, bindF_none, bindF_onSum]
  kernel_rfl
theorem spec_l01Copy.ok (N : Nat) : ConOk Try.prog 23 [.one] (spec_l01Copy.con N) := by
  refine conOk_mk (g := spec_l01Copy.cfg N) (N := N) (res := [(false, (.own .imm))]) tys_ok (spec_l01Copy.cons N) mixed Try.func23 (spec_l01Copy.ls N) rfl rfl ?_
  intro ds R k y h
  cases ds with
  | nil => exact none_some h
  | cons d0 ds =>
  cases ds with
  | cons _ _ => exact none_some h
  | nil =>
  have h0 : (castDm (.sl 2 (.int .i64)) .imm d0 fun x0 => bindO (spec_l01Copy N x0) fun r => k [⟨(.sl 2 (.int .i64)), (.own .imm), r⟩] []) = some y := h
  clear h
  obtain ⟨x0, rfl, h1⟩ := castDm_eq h0
  exact con_fin (spec_l01Copy.b N x0) h1
theorem spec_l01Copy.det (N : Nat) : ConDet (spec_l01Copy.con N) := by
  intro ds R k y h
  cases ds with
  | nil => exact none_some h
  | cons d0 ds =>
  cases ds with
  | cons _ _ => exact none_some h
  | nil =>
  have h0 : (castDm (.sl 2 (.int .i64)) .imm d0 fun x0 => bindO (spec_l01Copy N x0) fun r => k [⟨(.sl 2 (.int .i64)), (.own .imm), r⟩] []) = some y := h
  clear h
  obtain ⟨x0, rfl, h1⟩ := castDm_eq h0
  obtain ⟨r, e, h⟩ := bindO_some h1
  refine ⟨_, _, h, fun k' => ?_⟩
  show (castDm (.sl 2 (.int .i64)) .imm (⟨(.sl 2 (.int .i64)), .imm, x0⟩ : Dy) fun x0 => bindO (spec_l01Copy N x0) fun r => k' [⟨(.sl 2 (.int .i64)), (.own .imm), r⟩] []) = _
  simp only [castDm_self]
  rw [e]
  rfl
noncomputable def spec_BufReplace.con (N : Nat) : Con := { modes := [.v, .v, .v, .v], ptrs := [false], fn := fun ds k => match ds with | [d0, d1, d2, d3] => castDm (.pair (.sl 2 (.int .i64)) (.pair (.int .i64) (.pair (.int .i64) .unit))) .imm d0 fun x0 => castDm (.int .i64) .imm d1 fun x1 => castDm (.int .i64) .imm d2 fun x2 => castDm (.sl 2 (.int .i64)) .imm d3 fun x3 => bindO (spec_BufReplace N x0 x1 x2 x3) fun r => k [⟨(.pair (.pair (.sl 2 (.int .i64)) (.pair (.int .i64) (.pair (.int .i64) .unit))) (.pair (.sl 2 (.int .i64)) (.pair (.int .i64) .unit))), (.pr (.pr (.own .imm) .imm) (.pr (.own .imm) .imm)), r⟩] [] | _ => none }
noncomputable def spec_BufReplace.cfg (N : Nat) : Cfg := { ty := tys, keep := [18, 22, 63, 69, 75, 103], flt := [], elm := [(22, (.own .imm)), (23, (.own .imm)), (24, (.pr (.own .imm) .imm)), (25, (.pr (.own .imm) .imm)), (26, (.own (.own .imm))), (29, (.pr (.pr (.own .imm) .imm) (.pr (.own .imm) .imm))), (30, (.pr (.pr (.own .imm) .imm) (.pr (.own .imm) .imm))), (54, (.pr (.own .imm) .imm)), (55, (.pr (.own .imm) .imm)), (61, (.own .imm))], live := [], ord := [(12, [13, 0, 1, 2, 3, 4, 6, 7, 8, 9, 10, 5, 11, 12, 14]), (13, [0, 1, 2, 3, 5, 7, 8, 9, 10, 4, 6, 11, 12, 13]), (16, [0, 1, 2, 3, 4, 5, 6, 7, 8])], con := [((19, [.one]), spec_BufRight.con N), ((42, [.one]), spec_PointsRight.con N), ((62, [.one, .one, .one, .one]), spec_l02Moved.con N), ((23, [.one]), spec_l01Copy.con N)], loops := [], joins := [] }
theorem spec_BufReplace.cons (N : Nat) : ConsOk Try.prog (spec_BufReplace.cfg N).con := (consOk_cons (hb19) (spec_BufRight.ok N) (spec_BufRight.det N) (consOk_cons (hb42) (spec_PointsRight.ok N) (spec_PointsRight.det N) (consOk_cons (hb62) (spec_l02Moved.ok N) (spec_l02Moved.det N) (consOk_cons (hb23) (spec_l01Copy.ok N) (spec_l01Copy.det N) consOk_nil))))
theorem spec_BufReplace.ls (N : Nat) : LoopsOk Try.prog (spec_BufReplace.cfg N) (fnBody Try.f38) := loopsL (l := []) (by kernel_rfl) trivial
theorem spec_BufReplace.b (N : Nat) (x0 : den (.pair (.sl 2 (.int .i64)) (.pair (.int .i64) (.pair (.int .i64) .unit)))) (x1 : den (.int .i64)) (x2 : den (.int .i64)) (x3 : den (.sl 2 (.int .i64))) : body (spec_BufReplace.cfg N) N Try.f38 [.one, .one, .one, .one] [.v, .v, .v, .v] [(false, (.pr (.pr (.own .imm) .imm) (.pr (.own .imm) .imm)))] [⟨(.pair (.sl 2 (.int .i64)) (.pair (.int .i64) (.pair (.int .i64) .unit))), .imm, x0⟩, ⟨(.int .i64), .imm, x1⟩, ⟨(.int .i64), .imm, x2⟩, ⟨(.sl 2 (.int .i64)), .imm, x3⟩] (fun r i => some (r, i)) = bindO (spec_BufReplace N x0 x1 x2 x3) fun r => some ([⟨(.pair (.pair (.sl 2 (.int .i64)) (.pair (.int .i64) (.pair (.int .i64) .unit))) (.pair (.sl 2 (.int .i64)) (.pair (.int .i64) .unit))), (.pr (.pr (.own .imm) .imm) (.pr (.own .imm) .imm)), r⟩], []) := by
  show _ = bindF _ _
  conv => rhs; simp only [spec_BufReplace, bindF_ifB, bindF_bindO, bindF_pure, bindF_none, bindF_onSum]
  kernel_rfl
theorem spec_BufReplace.ok (N : Nat) : ConOk Try.prog 38 [.one, .one, .one, .one] (spec_BufReplace.con N) := by
  refine conOk_mk (g := spec_BufReplace.cfg N) (N := N) (res := [(false, (.pr (.pr (.own .imm) .imm) (.pr (.own .imm) .imm)))]) tys_ok (spec_BufReplace.cons N) mixed Try.func38 (spec_BufReplace.ls N) rfl rfl ?_
  intro ds R k y h
  cases ds with
  | nil => exact none_some h
  | cons d0 ds =>
  cases ds with
  | nil => exact none_some h
  | cons d1 ds =>
  cases ds with
  | nil => exact none_some h
  | cons d2 ds =>
  cases ds with
  | nil => exact none_some h
  | cons d3 ds =>
  cases ds with
  | cons _ _ => exact none_some h
  | nil =>
  have h0 : (castDm (.pair (.sl 2 (.int .i64)) (.pair (.int .i64) (.pair (.int .i64) .unit))) .imm d0 fun x0 => castDm (.int .i64) .imm d1 fun x1 => castDm (.int .i64) .imm d2 fun x2 => castDm (.sl 2 (.int .i64)) .imm d3 fun x3 => bindO (spec_BufReplace N x0 x1 x2 x3) fun r => k [⟨(.pair (.pair (.sl 2 (.int .i64)) (.pair (.int .i64) (.pair (.int .i64) .unit))) (.pair (.sl 2 (.int .i64)) (.pair (.int .i64) .unit))), (.pr (.pr (.own .imm) .imm) (.pr (.own .imm) .imm)), r⟩] []) = some y := h
  clear h
  obtain ⟨x0, rfl, h1⟩ := castDm_eq h0
  obtain ⟨x1, rfl, h2⟩ := castDm_eq h1
  obtain ⟨x2, rfl, h3⟩ := castDm_eq h2
  obtain ⟨x3, rfl, h4⟩ := castDm_eq h3
  exact con_fin (spec_BufReplace.b N x0 x1 x2 x3) h4
theorem spec_BufReplace.det (N : Nat) : ConDet (spec_BufReplace.con N) := by
  intro ds R k y h
  cases ds with
  | nil => exact none_some h
  | cons d0 ds =>
  cases ds with
  | nil => exact none_some h
  | cons d1 ds =>
  cases ds with
  | nil => exact none_some h
  | cons d2 ds =>
  cases ds with
  | nil => exact none_some h
  | cons d3 ds =>
  cases ds with
  | cons _ _ => exact none_some h
  | nil =>
  have h0 : (castDm (.pair (.sl 2 (.int .i64)) (.pair (.int .i64) (.pair (.int .i64) .unit))) .imm d0 fun x0 => castDm (.int .i64) .imm d1 fun x1 => castDm (.int .i64) .imm d2 fun x2 => castDm (.sl 2 (.int .i64)) .imm d3 fun x3 => bindO (spec_BufReplace N x0 x1 x2 x3) fun r => k [⟨(.pair (.pair (.sl 2 (.int .i64)) (.pair (.int .i64) (.pair (.int .i64) .unit))) (.pair (.sl 2 (.int .i64)) (.pair (.int .i64) .unit))), (.pr (.pr (.own .imm) .imm) (.pr (.own .imm) .imm)), r⟩] []) = some y := h
  clear h
  obtain ⟨x0, rfl, h1⟩ := castDm_eq h0
  obtain ⟨x1, rfl, h2⟩ := castDm_eq h1
  obtain ⟨x2, rfl, h3⟩ := castDm_eq h2
  obtain ⟨x3, rfl, h4⟩ := castDm_eq h3
  obtain ⟨r, e, h⟩ := bindO_some h4
  refine ⟨_, _, h, fun k' => ?_⟩
  show (castDm (.pair (.sl 2 (.int .i64)) (.pair (.int .i64) (.pair (.int .i64) .unit))) .imm (⟨(.pair (.sl 2 (.int .i64)) (.pair (.int .i64) (.pair (.int .i64) .unit))), .imm, x0⟩ : Dy) fun x0 => castDm (.int .i64) .imm (⟨(.int .i64), .imm, x1⟩ : Dy) fun x1 => castDm (.int .i64) .imm (⟨(.int .i64), .imm, x2⟩ : Dy) fun x2 => castDm (.sl 2 (.int .i64)) .imm (⟨(.sl 2 (.int .i64)), .imm, x3⟩ : Dy) fun x3 => bindO (spec_BufReplace N x0 x1 x2 x3) fun r => k' [⟨(.pair (.pair (.sl 2 (.int .i64)) (.pair (.int .i64) (.pair (.int .i64) .unit))) (.pair (.sl 2 (.int .i64)) (.pair (.int .i64) .unit))), (.pr (.pr (.own .imm) .imm) (.pr (.own .imm) .imm)), r⟩] []) = _
  simp only [castDm_self]
  rw [e]
  rfl
noncomputable def spec_BufInsert.con (N : Nat) : Con := { modes := [.v, .v], ptrs := [false], fn := fun ds k => match ds with | [d0, d1] => castDm (.pair (.sl 2 (.int .i64)) (.pair (.int .i64) (.pair (.int .i64) .unit))) .imm d0 fun x0 => castDm (.sl 2 (.int .i64)) .imm d1 fun x1 => bindO (spec_BufInsert N x0 x1) fun r => k [⟨(.pair (.pair (.sl 2 (.int .i64)) (.pair (.int .i64) (.pair (.int .i64) .unit))) (.pair (.sl 2 (.int .i64)) (.pair (.int .i64) .unit))), (.pr (.pr (.own .imm) .imm) (.pr (.own .imm) .imm)), r⟩] [] | _ => none }
noncomputable def spec_BufInsert.cfg (N : Nat) : Cfg := { ty := tys, keep := [11], flt := [], elm := [(22, (.own .imm)), (23, (.own .imm)), (24, (.pr (.own .imm) .imm)), (25, (.pr (.own .imm) .imm)), (26, (.own (.own .imm))), (29, (.pr (.pr (.own .imm) .imm) (.pr (.own .imm) .imm))), (30, (.pr (.pr (.own .imm) .imm) (.pr (.own .imm) .imm))), (54, (.pr (.own .imm) .imm)), (55, (.pr (.own .imm) .imm)), (61, (.own .imm))], live := [], ord := [], con := [((38, [.one, .one, .one, .one]), spec_BufReplace.con N)], loops := [], joins := [] }
theorem spec_BufInsert.cons (N : Nat) : ConsOk Try.prog (spec_BufInsert.cfg N).con := (consOk_cons (hb38) (spec_BufReplace.ok N) (spec_BufReplace.det N) consOk_nil)
theorem spec_BufInsert.ls (N : Nat) : LoopsOk Try.prog (spec_BufInsert.cfg N) (fnBody Try.f16) := loopsL (l := []) (by kernel_rfl) trivial
theorem spec_BufInsert.b (N : Nat) (x0 : den (.pair (.sl 2 (.int .i64)) (.pair (.int .i64) (.pair (.int .i64) .unit)))) (x1 : den (.sl 2 (.int .i64))) : body (spec_BufInsert.cfg N) N Try.f16 [.one, .one] [.v, .v] [(false, (.pr (.pr (.own .imm) .imm) (.pr (.own .imm) .imm)))] [⟨(.pair (.sl 2 (.int .i64)) (.pair (.int .i64) (.pair (.int .i64) .unit))), .imm, x0⟩, ⟨(.sl 2 (.int .i64)), .imm, x1⟩] (fun r i => some (r, i)) = bindO (spec_BufInsert N x0 x1) fun r => some ([⟨(.pair (.pair (.sl 2 (.int .i64)) (.pair (.int .i64) (.pair (.int .i64) .unit))) (.pair (.sl 2 (.int .i64)) (.pair (.int .i64) .unit))), (.pr (.pr (.own .imm) .imm) (.pr (.own .imm) .imm)), r⟩], []) := by
  show _ = bindF _ _
  conv => rhs; simp only [spec_BufInsert, bindF_ifB, bindF_bindO, bindF_pure, bindF_none, bindF_onSum]
  kernel_rfl
theorem spec_BufInsert.ok (N : Nat) : ConOk Try.prog 16 [.one, .one] (spec_BufInsert.con N) := by
  refine conOk_mk (g := spec_BufInsert.cfg N) (N := N) (res := [(false, (.pr (.pr (.own .imm) .imm) (.pr (.own .imm) .imm)))]) tys_ok (spec_BufInsert.cons N) mixed Try.func16 (spec_BufInsert.ls N) rfl rfl ?_
  intro ds R k y h
  cases ds with
  | nil => exact none_some h
  | cons d0 ds =>
  cases ds with
  | nil => exact none_some h
  | cons d1 ds =>
  cases ds with
  | cons _ _ => exact none_some h
  | nil =>
  have h0 : (castDm (.pair (.sl 2 (.int .i64)) (.pair (.int .i64) (.pair (.int .i64) .unit))) .imm d0 fun x0 => castDm (.sl 2 (.int .i64)) .imm d1 fun x1 => bindO (spec_BufInsert N x0 x1) fun r => k [⟨(.pair (.pair (.sl 2 (.int .i64)) (.pair (.int .i64) (.pair (.int .i64) .unit))) (.pair (.sl 2 (.int .i64)) (.pair (.int .i64) .unit))), (.pr (.pr (.own .imm) .imm) (.pr (.own .imm) .imm)), r⟩] []) = some y := h
  clear h
  obtain ⟨x0, rfl, h1⟩ := castDm_eq h0
  obtain ⟨x1, rfl, h2⟩ := castDm_eq h1
  exact con_fin (spec_BufInsert.b N x0 x1) h2
theorem spec_BufInsert.det (N : Nat) : ConDet (spec_BufInsert.con N) := by
  intro ds R k y h
  cases ds with
  | nil => exact none_some h
  | cons d0 ds =>
  cases ds with
  | nil => exact none_some h
  | cons d1 ds =>
  cases ds with
  | cons _ _ => exact none_some h
  | nil =>
  have h0 : (castDm (.pair (.sl 2 (.int .i64)) (.pair (.int .i64) (.pair (.int .i64) .unit))) .imm d0 fun x0 => castDm (.sl 2 (.int .i64)) .imm d1 fun x1 => bindO (spec_BufInsert N x0 x1) fun r => k [⟨(.pair (.pair (.sl 2 (.int .i64)) (.pair (.int .i64) (.pair (.int .i64) .unit))) (.pair (.sl 2 (.int .i64)) (.pair (.int .i64) .unit))), (.pr (.pr (.own .imm) .imm) (.pr (.own .imm) .imm)), r⟩] []) = some y := h
  clear h
  obtain ⟨x0, rfl, h1⟩ := castDm_eq h0
  obtain ⟨x1, rfl, h2⟩ := castDm_eq h1
  obtain ⟨r, e, h⟩ := bindO_some h2
  refine ⟨_, _, h, fun k' => ?_⟩
  show (castDm (.pair (.sl 2 (.int .i64)) (.pair (.int .i64) (.pair (.int .i64) .unit))) .imm (⟨(.pair (.sl 2 (.int .i64)) (.pair (.int .i64) (.pair (.int .i64) .unit))), .imm, x0⟩ : Dy) fun x0 => castDm (.sl 2 (.int .i64)) .imm (⟨(.sl 2 (.int .i64)), .imm, x1⟩ : Dy) fun x1 => bindO (spec_BufInsert N x0 x1) fun r => k' [⟨(.pair (.pair (.sl 2 (.int .i64)) (.pair (.int .i64) (.pair (.int .i64) .unit))) (.pair (.sl 2 (.int .i64)) (.pair (.int .i64) .unit))), (.pr (.pr (.own .imm) .imm) (.pr (.own .imm) .imm)), r⟩] []) = _
  simp only [castDm_self]
  rw [e]
  rfl
noncomputable def spec_l01Src_l15Cand.con (N : Nat) : Con := { modes := [.io], ptrs := [false], fn := fun ds k => match ds with | [d0] => castDm (.pair (.sl 5 (.int .u8)) (.pair (.int .i64) (.pair (.int .u64) (.pair (.int .i64) .unit)))) .imm d0 fun x0 => bindO (spec_l01Src_l15Cand N x0) fun r => k [⟨(.sl 2 (.int .i64)), (.own .imm), r.1⟩] [⟨(.pair (.sl 5 (.int .u8)) (.pair (.int .i64) (.pair (.int .u64) (.pair (.int .i64) .unit)))), .imm, r.2⟩] | _ => none }
noncomputable def spec_l01Src_l15Cand.cfg (N : Nat) : Cfg := { ty := tys, keep := [5, 6], flt := [], elm := [(22, (.own .imm)), (23, (.own .imm)), (24, (.pr (.own .imm) .imm)), (25, (.pr (.own .imm) .imm)), (26, (.own (.own .imm))), (29, (.pr (.pr (.own .imm) .imm) (.pr (.own .imm) .imm))), (30, (.pr (.pr (.own .imm) .imm) (.pr (.own .imm) .imm))), (54, (.pr (.own .imm) .imm)), (55, (.pr (.own .imm) .imm)), (61, (.own .imm))], live := [], ord := [], con := [((40, [.one, .one]), spec_l01Src_pick.con N), ((39, [.one]), spec_l01Points.con N)], loops := [], joins := [] }
theorem spec_l01Src_l15Cand.cons (N : Nat) : ConsOk Try.prog (spec_l01Src_l15Cand.cfg N).con := (consOk_cons (hb40) (spec_l01Src_pick.ok N) (spec_l01Src_pick.det N) (consOk_cons (hb39) (spec_l01Points.ok N) (spec_l01Points.det N) consOk_nil))
theorem spec_l01Src_l15Cand.ls (N : Nat) : LoopsOk Try.prog (spec_l01Src_l15Cand.cfg N) (fnBody Try.f41) := loopsL (l := []) (by kernel_rfl) trivial
theorem spec_l01Src_l15Cand.b (N : Nat) (x0 : den (.pair (.sl 5 (.int .u8)) (.pair (.int .i64) (.pair (.int .u64) (.pair (.int .i64) .unit))))) : body (spec_l01Src_l15Cand.cfg N) N Try.f41 [.one] [.io] [(false, (.own .imm))] [⟨(.pair (.sl 5 (.int .u8)) (.pair (.int .i64) (.pair (.int .u64) (.pair (.int .i64) .unit)))), .imm, x0⟩] (fun r i => some (r, i)) = bindO (spec_l01Src_l15Cand N x0) fun r => some ([⟨(.sl 2 (.int .i64)), (.own .imm), r.1⟩], [⟨(.pair (.sl 5 (.int .u8)) (.pair (.int .i64) (.pair (.int .u64) (.pair (.int .i64) .unit)))), .imm, r.2⟩]) := by
  show _ = bindF _ _
  conv => rhs; simp only [spec_l01Src_l15Cand, bindF_ifB, bindF_bindO, bindF_pure, bindF_none, bindF_onSum]
  kernel_rfl
theorem spec_l01Src_l15Cand.ok (N : Nat) : ConOk Try.prog 41 [.one] (spec_l01Src_l15Cand.con N) := by
  refine conOk_mk (g := spec_l01Src_l15Cand.cfg N) (N := N) (res := [(false, (.own .imm))]) tys_ok (spec_l01Src_l15Cand.cons N) mixed Try.func41 (spec_l01Src_l15Cand.ls N) rfl rfl ?_
  intro ds R k y h
  cases ds with
  | nil => exact none_some h
  | cons d0 ds =>
  cases ds with
  | cons _ _ => exact none_some h
  | nil =>
  have h0 : (castDm (.pair (.sl 5 (.int .u8)) (.pair (.int .i64) (.pair (.int .u64) (.pair (.int .i64) .unit)))) .imm d0 fun x0 => bindO (spec_l01Src_l15Cand N x0) fun r => k [⟨(.sl 2 (.int .i64)), (.own .imm), r.1⟩] [⟨(.pair (.sl 5 (.int .u8)) (.pair (.int .i64) (.pair (.int .u64) (.pair (.int .i64) .unit)))), .imm, r.2⟩]) = some y := h
  clear h
  obtain ⟨x0, rfl, h1⟩ := castDm_eq h0
  exact con_fin (spec_l01Src_l15Cand.b N x0) h1
theorem spec_l01Src_l15Cand.det (N : Nat) : ConDet (spec_l01Src_l15Cand.con N) := by
  intro ds R k y h
  cases ds with
  | nil => exact none_some h
  | cons d0 ds =>
  cases ds with
  | cons _ _ => exact none_some h
  | nil =>
  have h0 : (castDm (.pair (.sl 5 (.int .u8)) (.pair (.int .i64) (.pair (.int .u64) (.pair (.int .i64) .unit)))) .imm d0 fun x0 => bindO (spec_l01Src_l15Cand N x0) fun r => k [⟨(.sl 2 (.int .i64)), (.own .imm), r.1⟩] [⟨(.pair (.sl 5 (.int .u8)) (.pair (.int .i64) (.pair (.int .u64) (.pair (.int .i64) .unit)))), .imm, r.2⟩]) = some y := h
  clear h
  obtain ⟨x0, rfl, h1⟩ := castDm_eq h0
  obtain ⟨r, e, h⟩ := bindO_some h1
  refine ⟨_, _, h, fun k' => ?_⟩
  show (castDm (.pair (.sl 5 (.int .u8)) (.pair (.int .i64) (.pair (.int .u64) (.pair (.int .i64) .unit)))) .imm (⟨(.pair (.sl 5 (.int .u8)) (.pair (.int .i64) (.pair (.int .u64) (.pair (.int .i64) .unit)))), .imm, x0⟩ : Dy) fun x0 => bindO (spec_l01Src_l15Cand N x0) fun r => k' [⟨(.sl 2 (.int .i64)), (.own .imm), r.1⟩] [⟨(.pair (.sl 5 (.int .u8)) (.pair (.int .i64) (.pair (.int .u64) (.pair (.int .i64) .unit)))), .imm, r.2⟩]) = _
  simp only [castDm_self]
  rw [e]
  rfl
def spec_l01Src_l15Cands.sk5 : Skel := ⟨[.ptr 0 [], .dead, .dead, .ov 50 [], .pv (.int .i64), .dead, .dead, .dead, .dead, .dead, .dead, .dead, .dead, .dead, .dead, .dead, .dead, .dead, .dead, .dead, .dead, .dead, .dead, .dead, .dead, .dead, .dead, .dead, .dead, .dead, .dead, .dead, .dead, .dead, .dead, .dead, .dead, .dead, .dead, .dead, .dead, .dead, .dead, .dead, .dead, .dead, .dead, .dead, .dead, .dead, .dead, .dead, .dead, .dead, .dead, .dead], [⟨0, (.pair (.sl 5 (.int .u8)) (.pair (.int .i64) (.pair (.int .u64) (.pair (.int .i64) .unit)))), .imm, true, false⟩, ⟨50, (.sl 23 (.sl 2 (.int .i64))), (.own (.own .imm)), false, false⟩]⟩
def spec_l01Src_l15Cands.xs5 : List XS := [⟨.exit 0, [0, 3], ⟨[.ptr 0 [], .dead, .dead, .ov 50 [], .dead, .dead, .dead, .dead, .dead, .dead, .dead, .dead, .dead, .dead, .dead, .dead, .dead, .dead, .dead, .dead, .dead, .dead, .dead, .dead, .dead, .dead, .dead, .dead, .dead, .dead, .dead, .dead, .dead, .dead, .dead, .dead, .dead, .dead, .dead, .dead, .dead, .dead, .dead, .dead, .dead, .dead, .dead, .dead, .dead, .dead, .dead, .dead, .dead, .dead, .dead, .dead], [⟨0, (.pair (.sl 5 (.int .u8)) (.pair (.int .i64) (.pair (.int .u64) (.pair (.int .i64) .unit)))), .imm, true, false⟩, ⟨50, (.sl 23 (.sl 2 (.int .i64))), (.own (.own .imm)), false, false⟩]⟩⟩]
def spec_l01Src_l15Cands.sk12 : Skel := ⟨[.dead, .dead, .dead, .ov 50 [], .dead, .ov 51 [], .pv (.int .i64), .dead, .dead, .dead, .dead, .dead, .dead, .dead, .dead, .dead, .dead, .dead, .dead, .dead, .dead, .dead, .dead, .dead, .dead, .dead, .dead, .dead, .dead, .dead, .dead, .dead, .dead, .dead, .dead, .dead, .dead, .dead, .dead, .dead, .dead, .dead, .dead, .dead, .dead, .dead, .dead, .dead, .dead, .dead, .dead, .dead, .dead, .dead, .dead, .dead], [⟨0, (.pair (.sl 5 (.int .u8)) (.pair (.int .i64) (.pair (.int .u64) (.pair (.int .i64) .unit)))), .imm, true, false⟩, ⟨50, (.sl 23 (.sl 2 (.int .i64))), (.own (.own .imm)), false, false⟩, ⟨51, (.sl 2 (.int .i64)), (.own .imm), false, false⟩]⟩
def spec_l01Src_l15Cands.xs12 : List XS := [⟨.exit 3, [3, 5], ⟨[.dead, .dead, .dead, .ov 50 [], .dead, .ov 51 [], .dead, .dead, .dead, .dead, .dead, .dead, .dead, .dead, .dead, .dead, .dead, .dead, .dead, .dead, .dead, .dead, .dead, .dead, .dead, .dead, .dead, .dead, .dead, .dead, .dead, .dead, .dead, .dead, .dead, .dead, .dead, .dead, .dead, .dead, .dead, .dead, .dead, .dead, .dead, .dead, .dead, .dead, .dead, .dead, .dead, .dead, .dead, .dead, .dead, .dead], [⟨0, (.pair (.sl 5 (.int .u8)) (.pair (.int .i64) (.pair (.int .u64) (.pair (.int .i64) .unit)))), .imm, true, false⟩, ⟨50, (.sl 23 (.sl 2 (.int .i64))), (.own (.own .imm)), false, false⟩, ⟨51, (.sl 2 (.int .i64)), (.own .imm), false, false⟩]⟩⟩]
noncomputable def spec_l01Src_l15Cands.con (N : Nat) : Con := { modes := [.io], ptrs := [false], fn := fun ds k => match ds with | [d0] => castDm (.pair (.sl 5 (.int .u8)) (.pair (.int .i64) (.pair (.int .u64) (.pair (.int .i64) .unit)))) .imm d0 fun x0 => bindO (spec_l01Src_l15Cands N x0) fun r => k [⟨(.sl 23 (.sl 2 (.int .i64))), (.own (.own .imm)), r.1⟩] [⟨(.pair (.sl 5 (.int .u8)) (.pair (.int .i64) (.pair (.int .u64) (.pair (.int .i64) .unit)))), .imm, r.2⟩] | _ => none }
noncomputable def spec_l01Src_l15Cands.cfg (N : Nat) : Cfg := { ty := tys, keep := [9, 11, 13, 21, 25, 27, 30], flt := [], elm := [(22, (.own .imm)), (23, (.own .imm)), (24, (.pr (.own .imm) .imm)), (25, (.pr (.own .imm) .imm)), (26, (.own (.own .imm))), (29, (.pr (.pr (.own .imm) .imm) (.pr (.own .imm) .imm))), (30, (.pr (.pr (.own .imm) .imm) (.pr (.own .imm) .imm))), (54, (.pr (.own .imm) .imm)), (55, (.pr (.own .imm) .imm)), (61, (.own .imm))], live := [(12, [3, 5, 6]), (5, [0, 3, 4])], ord := [], con := [((36, [.one, .one]), spec_l01Src_n.con N), ((37, [.one, .one]), spec_l01Src_one.con N), ((41, [.one]), spec_l01Src_l15Cand.con N)], loops := [(5, loopCon N spec_l01Src_l15Cands.sk5 spec_l01Src_l15Cands.xs5 (fun {R} => spec_l01Src_l15Cands.l5 (R := R) N)), (12, loopCon N spec_l01Src_l15Cands.sk12 spec_l01Src_l15Cands.xs12 (fun {R} => spec_l01Src_l15Cands.l12 (R := R) N))], joins := [] }
theorem spec_l01Src_l15Cands.cons (N : Nat) : ConsOk Try.prog (spec_l01Src_l15Cands.cfg N).con := (consOk_cons (hb36) (spec_l01Src_n.ok N) (spec_l01Src_n.det N) (consOk_cons (hb37) (spec_l01Src_one.ok N) (spec_l01Src_one.det N) (consOk_cons (hb41) (spec_l01Src_l15Cand.ok N) (spec_l01Src_l15Cand.det N) consOk_nil)))
theorem spec_l01Src_l15Cands.h12 {R : Type} (N : Nat) (d : spec_l01Src_l15Cands.sk12.D) (kn : spec_l01Src_l15Cands.sk12.D → Option R) (kx : XD spec_l01Src_l15Cands.xs12 → Option R) : roundK (spec_l01Src_l15Cands.cfg N) N (nthLoop (fnBody Try.f18) 1) spec_l01Src_l15Cands.sk12 spec_l01Src_l15Cands.xs12 d kn kx = spec_l01Src_l15Cands.l12 N d kn kx := by kernel_rfl
theorem spec_l01Src_l15Cands.i12 (N : Nat) : LoopsOk Try.prog (spec_l01Src_l15Cands.cfg N) (nthLoop (fnBody Try.f18) 1) := loopsL (l := []) (by kernel_rfl) trivial
theorem spec_l01Src_l15Cands.o12 (N : Nat) : LoopOk Try.prog (nthLoop (fnBody Try.f18) 1) (loopCon N spec_l01Src_l15Cands.sk12 spec_l01Src_l15Cands.xs12 (fun {R} => spec_l01Src_l15Cands.l12 (R := R) N)) := loop_ok (g := spec_l01Src_l15Cands.cfg N) tys_ok (spec_l01Src_l15Cands.cons N) mixed (spec_l01Src_l15Cands.i12 N) (fun d kn kx => spec_l01Src_l15Cands.h12 N d kn kx)
theorem spec_l01Src_l15Cands.h5 {R : Type} (N : Nat) (d : spec_l01Src_l15Cands.sk5.D) (kn : spec_l01Src_l15Cands.sk5.D → Option R) (kx : XD spec_l01Src_l15Cands.xs5 → Option R) : roundK (spec_l01Src_l15Cands.cfg N) N (nthLoop (fnBody Try.f18) 0) spec_l01Src_l15Cands.sk5 spec_l01Src_l15Cands.xs5 d kn kx = spec_l01Src_l15Cands.l5 N d kn kx := by kernel_rfl
theorem spec_l01Src_l15Cands.i5 (N : Nat) : LoopsOk Try.prog (spec_l01Src_l15Cands.cfg N) (nthLoop (fnBody Try.f18) 0) := loopsL (l := []) (by kernel_rfl) trivial
theorem spec_l01Src_l15Cands.o5 (N : Nat) : LoopOk Try.prog (nthLoop (fnBody Try.f18) 0) (loopCon N spec_l01Src_l15Cands.sk5 spec_l01Src_l15Cands.xs5 (fun {R} => spec_l01Src_l15Cands.l5 (R := R) N)) := loop_ok (g := spec_l01Src_l15Cands.cfg N) tys_ok (spec_l01Src_l15Cands.cons N) mixed (spec_l01Src_l15Cands.i5 N) (fun d kn kx => spec_l01Src_l15Cands.h5 N d kn kx)
theorem spec_l01Src_l15Cands.ls (N : Nat) : LoopsOk Try.prog (spec_l01Src_l15Cands.cfg N) (fnBody Try.f18) := loopsL (l := [nthLoop (fnBody Try.f18) 0, nthLoop (fnBody Try.f18) 1]) (by kernel_rfl) ⟨loopOne (L0 := loopCon N spec_l01Src_l15Cands.sk5 spec_l01Src_l15Cands.xs5 (fun {R} => spec_l01Src_l15Cands.l5 (R := R) N)) (id := 5) (by kernel_rfl) (by kernel_rfl) (spec_l01Src_l15Cands.o5 N), ⟨loopOne (L0 := loopCon N spec_l01Src_l15Cands.sk12 spec_l01Src_l15Cands.xs12 (fun {R} => spec_l01Src_l15Cands.l12 (R := R) N)) (id := 12) (by kernel_rfl) (by kernel_rfl) (spec_l01Src_l15Cands.o12 N), trivial⟩⟩
theorem spec_l01Src_l15Cands.q12 {R R' : Type} {N n : Nat} {d} {k} {g : R → Option R'} : bindF (loopP (spec_l01Src_l15Cands.l12 N) n d k) g = loopP (spec_l01Src_l15Cands.l12 N) n d fun e => bindF (k e) g := bindF_loopP (fun d kn kx => by simp only [spec_l01Src_l15Cands.l12, bindF_ifB, bindF_bindO, bindF_pure, bindF_none, bindF_onSum]) n d k
theorem spec_l01Src_l15Cands.q5 {R R' : Type} {N n : Nat} {d} {k} {g : R → Option R'} : bindF (loopP (spec_l01Src_l15Cands.l5 N) n d k) g = loopP (spec_l01Src_l15Cands.l5 N) n d fun e => bindF (k e) g := bindF_loopP (fun d kn kx => by simp only [spec_l01Src_l15Cands.l5, bindF_ifB, bindF_bindO, bindF_pure, bindF_none, bindF_onSum]) n d k
theorem spec_l01Src_l15Cands.b (N : Nat) (x0 : den (.pair (.sl 5 (.int .u8)) (.pair (.int .i64) (.pair (.int .u64) (.pair (.int .i64) .unit))))) : body (spec_l01Src_l15Cands.cfg N) N Try.f18 [.one] [.io] [(false, (.own (.own .imm)))] [⟨(.pair (.sl 5 (.int .u8)) (.pair (.int .i64) (.pair (.int .u64) (.pair (.int .i64) .unit)))), .imm, x0⟩] (fun r i => some (r, i)) = bindO (spec_l01Src_l15Cands N x0) fun r => some ([⟨(.sl 23 (.sl 2 (.int .i64))), (.own (.own .imm)), r.1⟩], [⟨(.pair (.sl 5 (.int .u8)) (.pair (.int .i64) (.pair (.int .u64) (.pair (.int .i64) .unit)))), .imm, r.2⟩]) := by
  show _ = bindF _ _
  conv => rhs; simp only [spec_l01Src_l15Cands, bindF_ifB, bindF_bindO, bindF_pure, bindF_none, bindF_onSum, spec_l01Src_l15Cands.q5, spec_l01Src_l15Cands.q12]
  kernel_rfl
theorem spec_l01Src_l15Cands.ok (N : Nat) : ConOk Try.prog 18 [.one] (spec_l01Src_l15Cands.con N) := by
  refine conOk_mk (g := spec_l01Src_l15Cands.cfg N) (N := N) (res := [(false, (.own (.own .imm)))]) tys_ok (spec_l01Src_l15Cands.cons N) mixed Try.func18 (spec_l01Src_l15Cands.ls N) rfl rfl ?_
  intro ds R k y h
  cases ds with
  | nil => exact none_some h
  | cons d0 ds =>
  cases ds with
  | cons _ _ => exact none_some h
  | nil =>
  have h0 : (castDm (.pair (.sl 5 (.int .u8)) (.pair (.int .i64) (.pair (.int .u64) (.pair (.int .i64) .unit)))) .imm d0 fun x0 => bindO (spec_l01Src_l15Cands N x0) fun r => k [⟨(.sl 23 (.sl 2 (.int .i64))), (.own (.own .imm)), r.1⟩] [⟨(.pair (.sl 5 (.int .u8)) (.pair (.int .i64) (.pair (.int .u64) (.pair (.int .i64) .unit)))), .imm, r.2⟩]) = some y := h
  clear h
  obtain ⟨x0, rfl, h1⟩ := castDm_eq h0
  exact con_fin (spec_l01Src_l15Cands.b N x0) h1
theorem spec_l01Src_l15Cands.det (N : Nat) : ConDet (spec_l01Src_l15Cands.con N) := by
  intro ds R k y h
  cases ds with
  | nil => exact none_some h
  | cons d0 ds =>
  cases ds with
  | cons _ _ => exact none_some h
  | nil =>
  have h0 : (castDm (.pair (.sl 5 (.int .u8)) (.pair (.int .i64) (.pair (.int .u64) (.pair (.int .i64) .unit)))) .imm d0 fun x0 => bindO (spec_l01Src_l15Cands N x0) fun r => k [⟨(.sl 23 (.sl 2 (.int .i64))), (.own (.own .imm)), r.1⟩] [⟨(.pair (.sl 5 (.int .u8)) (.pair (.int .i64) (.pair (.int .u64) (.pair (.int .i64) .unit)))), .imm, r.2⟩]) = some y := h
  clear h
  obtain ⟨x0, rfl, h1⟩ := castDm_eq h0
  obtain ⟨r, e, h⟩ := bindO_some h1
  refine ⟨_, _, h, fun k' => ?_⟩
  show (castDm (.pair (.sl 5 (.int .u8)) (.pair (.int .i64) (.pair (.int .u64) (.pair (.int .i64) .unit)))) .imm (⟨(.pair (.sl 5 (.int .u8)) (.pair (.int .i64) (.pair (.int .u64) (.pair (.int .i64) .unit)))), .imm, x0⟩ : Dy) fun x0 => bindO (spec_l01Src_l15Cands N x0) fun r => k' [⟨(.sl 23 (.sl 2 (.int .i64))), (.own (.own .imm)), r.1⟩] [⟨(.pair (.sl 5 (.int .u8)) (.pair (.int .i64) (.pair (.int .u64) (.pair (.int .i64) .unit)))), .imm, r.2⟩]) = _
  simp only [castDm_self]
  rw [e]
  rfl
noncomputable def spec_DrawCompPut.con (N : Nat) : Con := { modes := [.v], ptrs := [false, false], fn := fun ds k => match ds with | [d0] => castDm (.sl 5 (.int .u8)) .imm d0 fun x0 => bindO (spec_DrawCompPut N x0) fun r => k [⟨(.pair (.sl 2 (.int .i64)) (.pair (.int .i64) (.pair (.int .i64) .unit))), (.pr (.own .imm) .imm), r.1⟩, ⟨(.sl 23 (.sl 2 (.int .i64))), (.own (.own .imm)), r.2⟩] [] | _ => none }
noncomputable def spec_DrawCompPut.cfg (N : Nat) : Cfg := { ty := tys, keep := [8, 10, 14, 16, 24], flt := [], elm := [(22, (.own .imm)), (23, (.own .imm)), (24, (.pr (.own .imm) .imm)), (25, (.pr (.own .imm) .imm)), (26, (.own (.own .imm))), (29, (.pr (.pr (.own .imm) .imm) (.pr (.own .imm) .imm))), (30, (.pr (.pr (.own .imm) .imm) (.pr (.own .imm) .imm))), (54, (.pr (.own .imm) .imm)), (55, (.pr (.own .imm) .imm)), (61, (.own .imm))], live := [], ord := [(3, [6, 0, 2, 1, 3, 4, 5, 7]), (6, [0, 1, 2, 3, 4])], con := [((14, [.one]), spec_l01Source.con N), ((15, [.one]), spec_l01Src_l02Buf.con N), ((17, [.one]), spec_l01Src_l15Prefix.con N), ((16, [.one, .one]), spec_BufInsert.con N), ((18, [.one]), spec_l01Src_l15Cands.con N)], loops := [], joins := [] }
theorem spec_DrawCompPut.cons (N : Nat) : ConsOk Try.prog (spec_DrawCompPut.cfg N).con := (consOk_cons (hb14) (spec_l01Source.ok N) (spec_l01Source.det N) (consOk_cons (hb15) (spec_l01Src_l02Buf.ok N) (spec_l01Src_l02Buf.det N) (consOk_cons (hb17) (spec_l01Src_l15Prefix.ok N) (spec_l01Src_l15Prefix.det N) (consOk_cons (hb16) (spec_BufInsert.ok N) (spec_BufInsert.det N) (consOk_cons (hb18) (spec_l01Src_l15Cands.ok N) (spec_l01Src_l15Cands.det N) consOk_nil)))))
theorem spec_DrawCompPut.ls (N : Nat) : LoopsOk Try.prog (spec_DrawCompPut.cfg N) (fnBody Try.f4) := loopsL (l := []) (by kernel_rfl) trivial
theorem spec_DrawCompPut.b (N : Nat) (x0 : den (.sl 5 (.int .u8))) : body (spec_DrawCompPut.cfg N) N Try.f4 [.one] [.v] [(false, (.pr (.own .imm) .imm)), (false, (.own (.own .imm)))] [⟨(.sl 5 (.int .u8)), .imm, x0⟩] (fun r i => some (r, i)) = bindO (spec_DrawCompPut N x0) fun r => some ([⟨(.pair (.sl 2 (.int .i64)) (.pair (.int .i64) (.pair (.int .i64) .unit))), (.pr (.own .imm) .imm), r.1⟩, ⟨(.sl 23 (.sl 2 (.int .i64))), (.own (.own .imm)), r.2⟩], []) := by
  show _ = bindF _ _
  conv => rhs; simp only [spec_DrawCompPut, bindF_ifB, bindF_bindO, bindF_pure, bindF_none, bindF_onSum]
  kernel_rfl
theorem spec_DrawCompPut.ok (N : Nat) : ConOk Try.prog 4 [.one] (spec_DrawCompPut.con N) := by
  refine conOk_mk (g := spec_DrawCompPut.cfg N) (N := N) (res := [(false, (.pr (.own .imm) .imm)), (false, (.own (.own .imm)))]) tys_ok (spec_DrawCompPut.cons N) mixed Try.func4 (spec_DrawCompPut.ls N) rfl rfl ?_
  intro ds R k y h
  cases ds with
  | nil => exact none_some h
  | cons d0 ds =>
  cases ds with
  | cons _ _ => exact none_some h
  | nil =>
  have h0 : (castDm (.sl 5 (.int .u8)) .imm d0 fun x0 => bindO (spec_DrawCompPut N x0) fun r => k [⟨(.pair (.sl 2 (.int .i64)) (.pair (.int .i64) (.pair (.int .i64) .unit))), (.pr (.own .imm) .imm), r.1⟩, ⟨(.sl 23 (.sl 2 (.int .i64))), (.own (.own .imm)), r.2⟩] []) = some y := h
  clear h
  obtain ⟨x0, rfl, h1⟩ := castDm_eq h0
  exact con_fin (spec_DrawCompPut.b N x0) h1
theorem spec_DrawCompPut.det (N : Nat) : ConDet (spec_DrawCompPut.con N) := by
  intro ds R k y h
  cases ds with
  | nil => exact none_some h
  | cons d0 ds =>
  cases ds with
  | cons _ _ => exact none_some h
  | nil =>
  have h0 : (castDm (.sl 5 (.int .u8)) .imm d0 fun x0 => bindO (spec_DrawCompPut N x0) fun r => k [⟨(.pair (.sl 2 (.int .i64)) (.pair (.int .i64) (.pair (.int .i64) .unit))), (.pr (.own .imm) .imm), r.1⟩, ⟨(.sl 23 (.sl 2 (.int .i64))), (.own (.own .imm)), r.2⟩] []) = some y := h
  clear h
  obtain ⟨x0, rfl, h1⟩ := castDm_eq h0
  obtain ⟨r, e, h⟩ := bindO_some h1
  refine ⟨_, _, h, fun k' => ?_⟩
  show (castDm (.sl 5 (.int .u8)) .imm (⟨(.sl 5 (.int .u8)), .imm, x0⟩ : Dy) fun x0 => bindO (spec_DrawCompPut N x0) fun r => k' [⟨(.pair (.sl 2 (.int .i64)) (.pair (.int .i64) (.pair (.int .i64) .unit))), (.pr (.own .imm) .imm), r.1⟩, ⟨(.sl 23 (.sl 2 (.int .i64))), (.own (.own .imm)), r.2⟩] []) = _
  simp only [castDm_self]
  rw [e]
  rfl
noncomputable def spec_ClassOf.con (N : Nat) : Con := { modes := [.v], ptrs := [false], fn := fun ds k => match ds with | [d0] => castDm (.int .i64) .imm d0 fun x0 => bindO (spec_ClassOf N x0) fun r => k [⟨(.int .i64), .imm, r⟩] [] | _ => none }
noncomputable def spec_ClassOf.cfg (N : Nat) : Cfg := { ty := tys, keep := [4], flt := [], elm := [(22, (.own .imm)), (23, (.own .imm)), (24, (.pr (.own .imm) .imm)), (25, (.pr (.own .imm) .imm)), (26, (.own (.own .imm))), (29, (.pr (.pr (.own .imm) .imm) (.pr (.own .imm) .imm))), (30, (.pr (.pr (.own .imm) .imm) (.pr (.own .imm) .imm))), (54, (.pr (.own .imm) .imm)), (55, (.pr (.own .imm) .imm)), (61, (.own .imm))], live := [], ord := [], con := [((64, [.one]), spec_l01Point.con N)], loops := [], joins := [] }
theorem spec_ClassOf.cons (N : Nat) : ConsOk Try.prog (spec_ClassOf.cfg N).con := (consOk_cons (hb64) (spec_l01Point.ok N) (spec_l01Point.det N) consOk_nil)
theorem spec_ClassOf.ls (N : Nat) : LoopsOk Try.prog (spec_ClassOf.cfg N) (fnBody Try.f43) := loopsL (l := []) (by kernel_rfl) trivial
theorem spec_ClassOf.b (N : Nat) (x0 : den (.int .i64)) : body (spec_ClassOf.cfg N) N Try.f43 [.one] [.v] [(false, .imm)] [⟨(.int .i64), .imm, x0⟩] (fun r i => some (r, i)) = bindO (spec_ClassOf N x0) fun r => some ([⟨(.int .i64), .imm, r⟩], []) := by
  show _ = bindF _ _
  conv => rhs; simp only [spec_ClassOf, bindF_ifB, bindF_bindO, bindF_pure, bindF_none, bindF_onSum]
  kernel_rfl
theorem spec_ClassOf.ok (N : Nat) : ConOk Try.prog 43 [.one] (spec_ClassOf.con N) := by
  refine conOk_mk (g := spec_ClassOf.cfg N) (N := N) (res := [(false, .imm)]) tys_ok (spec_ClassOf.cons N) mixed Try.func43 (spec_ClassOf.ls N) rfl rfl ?_
  intro ds R k y h
  cases ds with
  | nil => exact none_some h
  | cons d0 ds =>
  cases ds with
  | cons _ _ => exact none_some h
  | nil =>
  have h0 : (castDm (.int .i64) .imm d0 fun x0 => bindO (spec_ClassOf N x0) fun r => k [⟨(.int .i64), .imm, r⟩] []) = some y := h
  clear h
  obtain ⟨x0, rfl, h1⟩ := castDm_eq h0
  exact con_fin (spec_ClassOf.b N x0) h1
theorem spec_ClassOf.det (N : Nat) : ConDet (spec_ClassOf.con N) := by
  intro ds R k y h
  cases ds with
  | nil => exact none_some h
  | cons d0 ds =>
  cases ds with
  | cons _ _ => exact none_some h
  | nil =>
  have h0 : (castDm (.int .i64) .imm d0 fun x0 => bindO (spec_ClassOf N x0) fun r => k [⟨(.int .i64), .imm, r⟩] []) = some y := h
  clear h
  obtain ⟨x0, rfl, h1⟩ := castDm_eq h0
  obtain ⟨r, e, h⟩ := bindO_some h1
  refine ⟨_, _, h, fun k' => ?_⟩
  show (castDm (.int .i64) .imm (⟨(.int .i64), .imm, x0⟩ : Dy) fun x0 => bindO (spec_ClassOf N x0) fun r => k' [⟨(.int .i64), .imm, r⟩] []) = _
  simp only [castDm_self]
  rw [e]
  rfl
def spec_CandsRight.sk4 : Skel := ⟨[.pv (.sl 23 (.sl 2 (.int .i64))), .dead, .dead, .pv (.int .i64), .dead, .dead, .dead, .dead, .dead, .dead, .dead, .dead, .dead, .dead, .dead, .dead, .dead, .dead, .dead, .dead, .dead, .dead, .dead, .dead, .dead, .dead, .dead, .dead, .dead, .dead, .dead, .dead, .dead, .dead, .dead, .dead, .dead, .dead, .dead, .dead, .dead, .dead, .dead, .dead, .dead, .dead], []⟩
def spec_CandsRight.xs4 : List XS := [⟨.exit 0, [], ⟨[.dead, .dead, .dead, .dead, .dead, .dead, .dead, .dead, .dead, .dead, .dead, .dead, .dead, .dead, .dead, .dead, .dead, .dead, .dead, .dead, .dead, .dead, .dead, .dead, .dead, .dead, .dead, .dead, .dead, .dead, .dead, .dead, .dead, .dead, .dead, .dead, .dead, .dead, .dead, .dead, .dead, .dead, .dead, .dead, .dead, .dead], []⟩⟩, ⟨.ret, [2], ⟨[.dead, .dead, .pv .bool, .dead, .dead, .dead, .dead, .dead, .dead, .dead, .dead, .dead, .dead, .dead, .dead, .dead, .dead, .dead, .dead, .dead, .dead, .dead, .dead, .dead, .dead, .dead, .dead, .dead, .dead, .dead, .dead, .dead, .dead, .dead, .dead, .dead, .dead, .dead, .dead, .dead, .dead, .dead, .dead, .dead, .dead, .dead], []⟩⟩]
def spec_CandsRight.sk9 : Skel := ⟨[.pv (.sl 23 (.sl 2 (.int .i64))), .dead, .dead, .pv (.int .i64), .pv (.int .i64), .dead, .dead, .dead, .dead, .dead, .dead, .dead, .dead, .dead, .dead, .dead, .dead, .dead, .dead, .dead, .dead, .dead, .dead, .dead, .dead, .dead, .dead, .dead, .dead, .dead, .dead, .dead, .dead, .dead, .dead, .dead, .dead, .dead, .dead, .dead, .dead, .dead, .dead, .dead, .dead, .dead], []⟩
def spec_CandsRight.xs9 : List XS := [⟨.exit 2, [0, 3, 21, 22, 23, 24, 25, 26], ⟨[.pv (.sl 23 (.sl 2 (.int .i64))), .dead, .dead, .pv (.int .i64), .dead, .dead, .dead, .dead, .dead, .dead, .dead, .dead, .dead, .dead, .dead, .dead, .dead, .dead, .dead, .dead, .dead, .dead, .dead, .dead, .dead, .dead, .dead, .dead, .dead, .dead, .dead, .dead, .dead, .dead, .dead, .dead, .dead, .dead, .dead, .dead, .dead, .dead, .dead, .dead, .dead, .dead], []⟩⟩, ⟨.ret, [2], ⟨[.dead, .dead, .pv .bool, .dead, .dead, .dead, .dead, .dead, .dead, .dead, .dead, .dead, .dead, .dead, .dead, .dead, .dead, .dead, .dead, .dead, .dead, .dead, .dead, .dead, .dead, .dead, .dead, .dead, .dead, .dead, .dead, .dead, .dead, .dead, .dead, .dead, .dead, .dead, .dead, .dead, .dead, .dead, .dead, .dead, .dead, .dead], []⟩⟩]
noncomputable def spec_CandsRight.con (N : Nat) : Con := { modes := [.v], ptrs := [false], fn := fun ds k => match ds with | [d0] => castDm (.sl 23 (.sl 2 (.int .i64))) .imm d0 fun x0 => bindO (spec_CandsRight N x0) fun r => k [⟨.bool, .imm, r⟩] [] | _ => none }
noncomputable def spec_CandsRight.cfg (N : Nat) : Cfg := { ty := tys, keep := [44], flt := [], elm := [(22, (.own .imm)), (23, (.own .imm)), (24, (.pr (.own .imm) .imm)), (25, (.pr (.own .imm) .imm)), (26, (.own (.own .imm))), (29, (.pr (.pr (.own .imm) .imm) (.pr (.own .imm) .imm))), (30, (.pr (.pr (.own .imm) .imm) (.pr (.own .imm) .imm))), (54, (.pr (.own .imm) .imm)), (55, (.pr (.own .imm) .imm)), (61, (.own .imm))], live := [(9, [0, 3, 4, 21, 22, 23, 24, 25, 26]), (4, [0, 3, 21, 22, 23, 24, 25, 26])], ord := [], con := [((43, [.one]), spec_ClassOf.con N)], loops := [(4, loopCon N spec_CandsRight.sk4 spec_CandsRight.xs4 (fun {R} => spec_CandsRight.l4 (R := R) N)), (9, loopCon N spec_CandsRight.sk9 spec_CandsRight.xs9 (fun {R} => spec_CandsRight.l9 (R := R) N))], joins := [] }
theorem spec_CandsRight.cons (N : Nat) : ConsOk Try.prog (spec_CandsRight.cfg N).con := (consOk_cons (hb43) (spec_ClassOf.ok N) (spec_ClassOf.det N) consOk_nil)
theorem spec_CandsRight.h9 {R : Type} (N : Nat) (d : spec_CandsRight.sk9.D) (kn : spec_CandsRight.sk9.D → Option R) (kx : XD spec_CandsRight.xs9 → Option R) : roundK (spec_CandsRight.cfg N) N (nthLoop (fnBody Try.f20) 1) spec_CandsRight.sk9 spec_CandsRight.xs9 d kn kx = spec_CandsRight.l9 N d kn kx := by kernel_rfl
theorem spec_CandsRight.i9 (N : Nat) : LoopsOk Try.prog (spec_CandsRight.cfg N) (nthLoop (fnBody Try.f20) 1) := loopsL (l := []) (by kernel_rfl) trivial
theorem spec_CandsRight.o9 (N : Nat) : LoopOk Try.prog (nthLoop (fnBody Try.f20) 1) (loopCon N spec_CandsRight.sk9 spec_CandsRight.xs9 (fun {R} => spec_CandsRight.l9 (R := R) N)) := loop_ok (g := spec_CandsRight.cfg N) tys_ok (spec_CandsRight.cons N) mixed (spec_CandsRight.i9 N) (fun d kn kx => spec_CandsRight.h9 N d kn kx)
theorem spec_CandsRight.h4 {R : Type} (N : Nat) (d : spec_CandsRight.sk4.D) (kn : spec_CandsRight.sk4.D → Option R) (kx : XD spec_CandsRight.xs4 → Option R) : roundK (spec_CandsRight.cfg N) N (nthLoop (fnBody Try.f20) 0) spec_CandsRight.sk4 spec_CandsRight.xs4 d kn kx = spec_CandsRight.l4 N d kn kx := by kernel_rfl
theorem spec_CandsRight.i4 (N : Nat) : LoopsOk Try.prog (spec_CandsRight.cfg N) (nthLoop (fnBody Try.f20) 0) := loopsL (l := [nthLoop (fnBody Try.f20) 1]) (by kernel_rfl) ⟨loopOne (L0 := loopCon N spec_CandsRight.sk9 spec_CandsRight.xs9 (fun {R} => spec_CandsRight.l9 (R := R) N)) (id := 9) (by kernel_rfl) (by kernel_rfl) (spec_CandsRight.o9 N), trivial⟩
theorem spec_CandsRight.o4 (N : Nat) : LoopOk Try.prog (nthLoop (fnBody Try.f20) 0) (loopCon N spec_CandsRight.sk4 spec_CandsRight.xs4 (fun {R} => spec_CandsRight.l4 (R := R) N)) := loop_ok (g := spec_CandsRight.cfg N) tys_ok (spec_CandsRight.cons N) mixed (spec_CandsRight.i4 N) (fun d kn kx => spec_CandsRight.h4 N d kn kx)
theorem spec_CandsRight.ls (N : Nat) : LoopsOk Try.prog (spec_CandsRight.cfg N) (fnBody Try.f20) := loopsL (l := [nthLoop (fnBody Try.f20) 0, nthLoop (fnBody Try.f20) 1]) (by kernel_rfl) ⟨loopOne (L0 := loopCon N spec_CandsRight.sk4 spec_CandsRight.xs4 (fun {R} => spec_CandsRight.l4 (R := R) N)) (id := 4) (by kernel_rfl) (by kernel_rfl) (spec_CandsRight.o4 N), ⟨loopOne (L0 := loopCon N spec_CandsRight.sk9 spec_CandsRight.xs9 (fun {R} => spec_CandsRight.l9 (R := R) N)) (id := 9) (by kernel_rfl) (by kernel_rfl) (spec_CandsRight.o9 N), trivial⟩⟩
theorem spec_CandsRight.q9 {R R' : Type} {N n : Nat} {d} {k} {g : R → Option R'} : bindF (loopP (spec_CandsRight.l9 N) n d k) g = loopP (spec_CandsRight.l9 N) n d fun e => bindF (k e) g := bindF_loopP (fun d kn kx => by simp only [spec_CandsRight.l9, bindF_ifB, bindF_bindO, bindF_pure, bindF_none, bindF_onSum]) n d k
theorem spec_CandsRight.q4 {R R' : Type} {N n : Nat} {d} {k} {g : R → Option R'} : bindF (loopP (spec_CandsRight.l4 N) n d k) g = loopP (spec_CandsRight.l4 N) n d fun e => bindF (k e) g := bindF_loopP (fun d kn kx => by simp only [spec_CandsRight.l4, bindF_ifB, bindF_bindO, bindF_pure, bindF_none, bindF_onSum, spec_CandsRight.q9]) n d k
theorem spec_CandsRight.b (N : Nat) (x0 : den (.sl 23 (.sl 2 (.int .i64)))) : body (spec_CandsRight.cfg N) N Try.f20 [.one] [.v] [(false, .imm)] [⟨(.sl 23 (.sl 2 (.int .i64))), .imm, x0⟩] (fun r i => some (r, i)) = bindO (spec_CandsRight N x0) fun r => some ([⟨.bool, .imm, r⟩], []) := by
  show _ = bindF _ _
  conv => rhs; simp only [spec_CandsRight, bindF_ifB, bindF_bindO, bindF_pure, bindF_none, bindF_onSum, spec_CandsRight.q4, spec_CandsRight.q9]
  kernel_rfl
theorem spec_CandsRight.ok (N : Nat) : ConOk Try.prog 20 [.one] (spec_CandsRight.con N) := by
  refine conOk_mk (g := spec_CandsRight.cfg N) (N := N) (res := [(false, .imm)]) tys_ok (spec_CandsRight.cons N) mixed Try.func20 (spec_CandsRight.ls N) rfl rfl ?_
  intro ds R k y h
  cases ds with
  | nil => exact none_some h
  | cons d0 ds =>
  cases ds with
  | cons _ _ => exact none_some h
  | nil =>
  have h0 : (castDm (.sl 23 (.sl 2 (.int .i64))) .imm d0 fun x0 => bindO (spec_CandsRight N x0) fun r => k [⟨.bool, .imm, r⟩] []) = some y := h
  clear h
  obtain ⟨x0, rfl, h1⟩ := castDm_eq h0
  exact con_fin (spec_CandsRight.b N x0) h1
theorem spec_CandsRight.det (N : Nat) : ConDet (spec_CandsRight.con N) := by
  intro ds R k y h
  cases ds with
  | nil => exact none_some h
  | cons d0 ds =>
  cases ds with
  | cons _ _ => exact none_some h
  | nil =>
  have h0 : (castDm (.sl 23 (.sl 2 (.int .i64))) .imm d0 fun x0 => bindO (spec_CandsRight N x0) fun r => k [⟨.bool, .imm, r⟩] []) = some y := h
  clear h
  obtain ⟨x0, rfl, h1⟩ := castDm_eq h0
  obtain ⟨r, e, h⟩ := bindO_some h1
  refine ⟨_, _, h, fun k' => ?_⟩
  show (castDm (.sl 23 (.sl 2 (.int .i64))) .imm (⟨(.sl 23 (.sl 2 (.int .i64))), .imm, x0⟩ : Dy) fun x0 => bindO (spec_CandsRight N x0) fun r => k' [⟨.bool, .imm, r⟩] []) = _
  simp only [castDm_self]
  rw [e]
  rfl
def spec_l15Word.sk2 : Skel := ⟨[.dead, .ptr 50 [], .dead, .pv (.int .i64), .dead, .dead, .dead, .dead, .dead, .dead, .dead, .dead, .dead, .dead, .dead, .dead, .dead, .dead, .dead, .dead, .dead], [⟨50, (.pair (.sl 2 (.int .i64)) (.pair (.int .i64) (.pair (.int .i64) .unit))), .imm, true, false⟩]⟩
def spec_l15Word.xs2 : List XS := [⟨.exit 0, [3], ⟨[.dead, .dead, .dead, .pv (.int .i64), .dead, .dead, .dead, .dead, .dead, .dead, .dead, .dead, .dead, .dead, .dead, .dead, .dead, .dead, .dead, .dead, .dead], []⟩⟩]
noncomputable def spec_l15Word.con (N : Nat) : Con := { modes := [.v], ptrs := [false], fn := fun ds k => match ds with | [d0] => castDm (.pair (.sl 2 (.int .i64)) (.pair (.int .i64) (.pair (.int .i64) .unit))) .imm d0 fun x0 => bindO (spec_l15Word N x0) fun r => k [⟨(.int .i64), .imm, r⟩] [] | _ => none }
noncomputable def spec_l15Word.cfg (N : Nat) : Cfg := { ty := tys, keep := [15], flt := [], elm := [(22, (.own .imm)), (23, (.own .imm)), (24, (.pr (.own .imm) .imm)), (25, (.pr (.own .imm) .imm)), (26, (.own (.own .imm))), (29, (.pr (.pr (.own .imm) .imm) (.pr (.own .imm) .imm))), (30, (.pr (.pr (.own .imm) .imm) (.pr (.own .imm) .imm))), (54, (.pr (.own .imm) .imm)), (55, (.pr (.own .imm) .imm)), (61, (.own .imm))], live := [(2, [1, 3, 9, 10, 11, 12, 13, 14, 15, 16])], ord := [], con := [((43, [.one]), spec_ClassOf.con N)], loops := [(2, loopCon N spec_l15Word.sk2 spec_l15Word.xs2 (fun {R} => spec_l15Word.l2 (R := R) N))], joins := [] }
theorem spec_l15Word.cons (N : Nat) : ConsOk Try.prog (spec_l15Word.cfg N).con := (consOk_cons (hb43) (spec_ClassOf.ok N) (spec_ClassOf.det N) consOk_nil)
theorem spec_l15Word.h2 {R : Type} (N : Nat) (d : spec_l15Word.sk2.D) (kn : spec_l15Word.sk2.D → Option R) (kx : XD spec_l15Word.xs2 → Option R) : roundK (spec_l15Word.cfg N) N (nthLoop (fnBody Try.f44) 0) spec_l15Word.sk2 spec_l15Word.xs2 d kn kx = spec_l15Word.l2 N d kn kx := by kernel_rfl
theorem spec_l15Word.i2 (N : Nat) : LoopsOk Try.prog (spec_l15Word.cfg N) (nthLoop (fnBody Try.f44) 0) := loopsL (l := []) (by kernel_rfl) trivial
theorem spec_l15Word.o2 (N : Nat) : LoopOk Try.prog (nthLoop (fnBody Try.f44) 0) (loopCon N spec_l15Word.sk2 spec_l15Word.xs2 (fun {R} => spec_l15Word.l2 (R := R) N)) := loop_ok (g := spec_l15Word.cfg N) tys_ok (spec_l15Word.cons N) mixed (spec_l15Word.i2 N) (fun d kn kx => spec_l15Word.h2 N d kn kx)
theorem spec_l15Word.ls (N : Nat) : LoopsOk Try.prog (spec_l15Word.cfg N) (fnBody Try.f44) := loopsL (l := [nthLoop (fnBody Try.f44) 0]) (by kernel_rfl) ⟨loopOne (L0 := loopCon N spec_l15Word.sk2 spec_l15Word.xs2 (fun {R} => spec_l15Word.l2 (R := R) N)) (id := 2) (by kernel_rfl) (by kernel_rfl) (spec_l15Word.o2 N), trivial⟩
theorem spec_l15Word.q2 {R R' : Type} {N n : Nat} {d} {k} {g : R → Option R'} : bindF (loopP (spec_l15Word.l2 N) n d k) g = loopP (spec_l15Word.l2 N) n d fun e => bindF (k e) g := bindF_loopP (fun d kn kx => by simp only [spec_l15Word.l2, bindF_ifB, bindF_bindO, bindF_pure, bindF_none, bindF_onSum]) n d k
theorem spec_l15Word.b (N : Nat) (x0 : den (.pair (.sl 2 (.int .i64)) (.pair (.int .i64) (.pair (.int .i64) .unit)))) : body (spec_l15Word.cfg N) N Try.f44 [.one] [.v] [(false, .imm)] [⟨(.pair (.sl 2 (.int .i64)) (.pair (.int .i64) (.pair (.int .i64) .unit))), .imm, x0⟩] (fun r i => some (r, i)) = bindO (spec_l15Word N x0) fun r => some ([⟨(.int .i64), .imm, r⟩], []) := by
  show _ = bindF _ _
  conv => rhs; simp only [spec_l15Word, bindF_ifB, bindF_bindO, bindF_pure, bindF_none, bindF_onSum, spec_l15Word.q2]
  kernel_rfl
theorem spec_l15Word.ok (N : Nat) : ConOk Try.prog 44 [.one] (spec_l15Word.con N) := by
  refine conOk_mk (g := spec_l15Word.cfg N) (N := N) (res := [(false, .imm)]) tys_ok (spec_l15Word.cons N) mixed Try.func44 (spec_l15Word.ls N) rfl rfl ?_
  intro ds R k y h
  cases ds with
  | nil => exact none_some h
  | cons d0 ds =>
  cases ds with
  | cons _ _ => exact none_some h
  | nil =>
  have h0 : (castDm (.pair (.sl 2 (.int .i64)) (.pair (.int .i64) (.pair (.int .i64) .unit))) .imm d0 fun x0 => bindO (spec_l15Word N x0) fun r => k [⟨(.int .i64), .imm, r⟩] []) = some y := h
  clear h
  obtain ⟨x0, rfl, h1⟩ := castDm_eq h0
  exact con_fin (spec_l15Word.b N x0) h1
theorem spec_l15Word.det (N : Nat) : ConDet (spec_l15Word.con N) := by
  intro ds R k y h
  cases ds with
  | nil => exact none_some h
  | cons d0 ds =>
  cases ds with
  | cons _ _ => exact none_some h
  | nil =>
  have h0 : (castDm (.pair (.sl 2 (.int .i64)) (.pair (.int .i64) (.pair (.int .i64) .unit))) .imm d0 fun x0 => bindO (spec_l15Word N x0) fun r => k [⟨(.int .i64), .imm, r⟩] []) = some y := h
  clear h
  obtain ⟨x0, rfl, h1⟩ := castDm_eq h0
  obtain ⟨r, e, h⟩ := bindO_some h1
  refine ⟨_, _, h, fun k' => ?_⟩
  show (castDm (.pair (.sl 2 (.int .i64)) (.pair (.int .i64) (.pair (.int .i64) .unit))) .imm (⟨(.pair (.sl 2 (.int .i64)) (.pair (.int .i64) (.pair (.int .i64) .unit))), .imm, x0⟩ : Dy) fun x0 => bindO (spec_l15Word N x0) fun r => k' [⟨(.int .i64), .imm, r⟩] []) = _
  simp only [castDm_self]
  rw [e]
  rfl
end Go.AE.F
